/-
  That the functions of the seat answer what the terms of text W say; nothing is assumed.
-/
import Derived.Test.YtdlcjpjflckdlaaGreatW
import Derived.Test.YtdlcjpjflckdlaaGreatProg
import Derived.KernelRfl
namespace Go.Proofs.YtdlcjpjflckdlaaGreat
open Go.RowKit
set_option linter.unusedVariables false
set_option maxRecDepth 100000
set_option maxHeartbeats 4000000
noncomputable section
abbrev h_0 : List Sh := [.int .i64, .int .i64, .bool, .int .u8]
abbrev h_1 : List Sh := [.bool, .int .i64, .int .i64, .int .i64]
abbrev h_2 : List Sh := [.int .i64, .int .i64, .int .i64, .int .i64]
abbrev h_3 : List Sh := [.sl 3 [.int .i64], .sl 5 [.int .u8], .int .i64]
abbrev h_4 : List Sh := [.int .i64, .int .i64, .sl 5 [.int .u8], .int .i64]
abbrev h_5 : List Sh := [.int .i64, .sl 5 [.int .u8], .int .i64, .int .i64, .sl 3 [.int .i64]]
abbrev h_6 : List Sh := [.int .i64, .int .i64, .sl 272 h_4]
abbrev h_7 : List Sh := [.int .i64, .int .i64, .sl 274 h_4]
abbrev h_8 : List Sh := [.int .i64, .int .i64, .int .i64, .sl 5 [.int .u8], .sl 5 [.int .u8], .int .i64, .int .i64, .sl 5 [.int .u8], .sl 5 [.int .u8], .int .i64, .int .i64, .int .i64]
abbrev h_9 : List Sh := [.int .i64, .int .i64, .sl 5 [.int .u8], .sl 5 [.int .u8], .int .i64, .sl 5 [.int .u8], .sl 5 [.int .u8], .int .i64, .int .i64, .sl 5 [.int .u8], .sl 5 [.int .u8]]
abbrev h_10 : List Sh := [.int .i64, .int .i64, .int .i64, .int .i64, .sl 5 [.int .u8], .sl 5 [.int .u8], .int .i64, .sl 5 [.int .u8], .sl 5 [.int .u8], .int .i64, .int .i64, .sl 5 [.int .u8], .sl 5 [.int .u8]]
abbrev h_11 : List Sh := [.int .i64, .sl 5 [.int .u8], .int .i64, .sl 5 [.int .u8], .int .i64, .int .i64, .sl 3 [.int .i64], .int .i64, .sl 5 [.int .u8], .int .i64, .int .i64, .sl 3 [.int .i64], .bool, .int .i64, .sl 5 [.int .u8]]
abbrev h_12 : List Sh := [.int .i64, .sl 5 [.int .u8], .sl 5 [.int .u8], .int .i64, .sl 5 [.int .u8], .int .i64, .sl 5 [.int .u8], .int .i64, .int .i64, .sl 3 [.int .i64], .int .i64, .sl 5 [.int .u8], .int .i64, .int .i64, .sl 3 [.int .i64], .bool, .int .i64, .sl 5 [.int .u8], .int .i64, .int .i64, .sl 272 h_4, .int .i64, .int .i64, .bool]
abbrev h_13 : List Sh := [.int .i64, .sl 5 [.int .u8], .sl 5 [.int .u8], .int .i64, .sl 5 [.int .u8], .int .i64, .sl 5 [.int .u8], .int .i64, .int .i64, .sl 3 [.int .i64], .int .i64, .sl 5 [.int .u8], .int .i64, .int .i64, .sl 3 [.int .i64], .bool, .int .i64, .sl 5 [.int .u8], .int .i64, .int .i64, .sl 274 h_4, .int .i64, .int .i64, .bool]
abbrev h_14 : List Sh := [.sl 23 [.sl 5 [.int .u8]], .sl 5 [.int .u8], .sl 5 [.int .u8], .int .i64, .int .i64, .sl 94 h_12, .sl 221 h_2]
abbrev h_15 : List Sh := [.sl 23 [.sl 5 [.int .u8]], .sl 5 [.int .u8], .sl 5 [.int .u8], .int .i64, .int .i64, .sl 100 h_13, .sl 218 h_2]
abbrev h_16 : List Sh := [.int .i64, .sl 5 [.int .u8], .int .i64, .int .i64, .int .i64, .sl 5 [.int .u8], .int .i64, .int .i64, .sl 5 [.int .u8], .sl 5 [.int .u8], .int .i64, .sl 5 [.int .u8], .sl 5 [.int .u8], .int .i64, .int .i64, .sl 5 [.int .u8], .sl 5 [.int .u8], .int .i64, .sl 5 [.int .u8], .int .i64, .sl 5 [.int .u8], .int .i64, .int .i64, .sl 3 [.int .i64], .int .i64, .sl 5 [.int .u8], .int .i64, .int .i64, .sl 3 [.int .i64], .bool, .int .i64, .sl 5 [.int .u8], .bool, .int .i64, .int .i64, .int .i64, .bool, .int .i64, .int .i64, .int .i64, .int .i64]
def tys : List (Nat × Ty) := [(3, ⟨false, [.int .i64], [], false, []⟩),
  (4, ⟨false, [.bool], [], false, []⟩),
  (5, ⟨false, [.int .u8], [], false, []⟩),
  (9, ⟨false, [.str], [], false, []⟩),
  (22, ⟨false, [.sl 23 [.sl 5 [.int .u8]]], [], false, []⟩),
  (23, ⟨false, [.sl 5 [.int .u8]], [], false, []⟩),
  (25, ⟨true, [.sl 5 [.int .u8]], [(0, 1)], false, []⟩),
  (27, ⟨true, [.sl 5 [.int .u8], .int .i64], [(0, 1), (1, 1)], false, []⟩),
  (28, ⟨false, [.sl 94 h_12], [], false, []⟩),
  (30, ⟨true, [.int .i64, .sl 94 h_12], [(0, 1), (1, 1)], false, []⟩),
  (31, ⟨false, [.sl 221 h_2], [], false, []⟩),
  (33, ⟨true, h_14, [(0, 1), (1, 1), (2, 2), (4, 2), (6, 1)], false, []⟩),
  (35, ⟨true, [.sl 5 [.int .u8]], [(0, 1)], false, []⟩),
  (36, ⟨true, [.sl 5 [.int .u8], .int .i64], [(0, 1), (1, 1)], false, []⟩),
  (37, ⟨false, [.sl 100 h_13], [], false, []⟩),
  (39, ⟨true, [.int .i64, .sl 100 h_13], [(0, 1), (1, 1)], false, []⟩),
  (40, ⟨false, [.sl 218 h_2], [], false, []⟩),
  (42, ⟨true, h_15, [(0, 1), (1, 1), (2, 2), (4, 2), (6, 1)], false, []⟩),
  (43, ⟨false, [.sl 139 h_8], [], false, []⟩),
  (53, ⟨true, [.int .i64, .int .i64], [(0, 1), (1, 1)], true, []⟩),
  (56, ⟨false, [.sl 3 [.int .i64]], [], false, []⟩),
  (58, ⟨true, [.int .i64, .sl 3 [.int .i64]], [(0, 1), (1, 1)], false, []⟩),
  (60, ⟨true, h_5, [(0, 1), (1, 1), (2, 1), (3, 2)], false, []⟩),
  (62, ⟨true, h_11, [(0, 1), (1, 1), (2, 5), (7, 5), (12, 1), (13, 1), (14, 1)], false, []⟩),
  (68, ⟨true, [.int .i64, .int .i64], [(0, 1), (1, 1)], true, []⟩),
  (69, ⟨true, h_9, [(0, 1), (1, 1), (2, 1), (3, 1), (4, 1), (5, 1), (6, 1), (7, 1), (8, 1), (9, 1), (10, 1)], false, []⟩),
  (70, ⟨true, [.int .i64, .sl 3 [.int .i64]], [(0, 1), (1, 1)], false, []⟩),
  (72, ⟨true, h_5, [(0, 1), (1, 1), (2, 1), (3, 2)], false, []⟩),
  (74, ⟨true, h_11, [(0, 1), (1, 1), (2, 5), (7, 5), (12, 1), (13, 1), (14, 1)], false, []⟩),
  (90, ⟨false, [.sl 272 h_4], [], false, []⟩),
  (92, ⟨true, h_6, [(0, 2), (2, 1)], false, []⟩),
  (94, ⟨true, h_12, [(0, 1), (1, 1), (2, 1), (3, 15), (18, 3), (21, 1), (22, 1), (23, 1)], false, []⟩),
  (96, ⟨false, [.sl 274 h_4], [], false, []⟩),
  (98, ⟨true, h_7, [(0, 2), (2, 1)], false, []⟩),
  (100, ⟨true, h_13, [(0, 1), (1, 1), (2, 1), (3, 15), (18, 3), (21, 1), (22, 1), (23, 1)], false, []⟩),
  (101, ⟨false, [.sl 175 h_10], [], false, []⟩),
  (139, ⟨true, h_8, [(0, 1), (1, 1), (2, 1), (3, 1), (4, 1), (5, 1), (6, 1), (7, 1), (8, 1), (9, 2), (11, 1)], false, []⟩),
  (175, ⟨true, h_10, [(0, 2), (2, 11)], false, []⟩),
  (218, ⟨true, h_2, [(0, 2), (2, 1), (3, 1)], false, []⟩),
  (221, ⟨true, h_2, [(0, 2), (2, 1), (3, 1)], false, []⟩),
  (272, ⟨true, h_4, [(0, 2), (2, 1), (3, 1)], false, []⟩),
  (274, ⟨true, h_4, [(0, 2), (2, 1), (3, 1)], false, []⟩),
  (298, ⟨true, h_3, [(0, 1), (1, 1), (2, 1)], false, []⟩),
  (309, ⟨false, [.int .u64], [], false, []⟩)]
theorem tys_ok : tysB Tryz.prog tys = true := by kernel_rfl
theorem mixed : Tryz.prog.follows .mixedOrders = true := by kernel_rfl
theorem mkF {f : FuncId} {fn : Func} {kd : Kind} {ps : List (Bool × List Sh)} {R : Type} {T : aden ps → Tree R} {rvs : R → List RV × List RV} (C : Fns) (hc : FnsOk Tryz.prog C) (hf : Tryz.prog.funcs[f]? = some fn) (hn : (fn.name == "runtime.NumGoroutine") = false) (hb : fn.body.isSome = true) (hl : loopsOf (fn.body.getD .skip) = []) (np : Nat)
    (he : ∀ d, pcall ⟨lookT tys, ctrOf C, kindOf C, 3, 4⟩ np (fun _ _ => .fail) fn kd (mkA ps d) = (T d).run fun r => some (rvs r)) : Fn Tryz.prog f kd (funV ps (fun d => (T d).val) rvs) :=
  fn_of (cfgOk_of mixed tys_ok hc) hf hn hb (fun cx b hp hbb => by rw [hl] at hbb; cases hbb) he
def F_l_szByteS : Fun1 := funV [(false, [.sl 5 [.int .u8]]), (false, [.int .i64])] (fun d => (T_l_szByteS d.1 d.2.1).val) fun r => ([rv (false, [.int .i64]) r], [])
theorem fn_l_szByteS : Fn Tryz.prog 98 .plain F_l_szByteS := mkF [] trivial Tryz.func98 (by kernel_rfl) (by kernel_rfl) (by kernel_rfl) 0 fun d => by kernel_rfl
def P_l_szByteSS : List (Bool × List Sh) := [(false, [.sl 23 [.sl 5 [.int .u8]]]), (false, [.int .i64])]
def O_l_szByteSS (r : (YI)) : List RV × List RV := ([rv (false, [.int .i64]) r], [])
def C_l_szByteSS : Fns := [(98, .plain, F_l_szByteS)]
def F_l_szByteSS : Fun1 := funV P_l_szByteSS (fun d => (T_l_szByteSS d.1 d.2.1).val) O_l_szByteSS
def K_l_szByteSS_5 : Sk := ⟨[(0, .v false [(.sl 23 [.sl 5 [.int .u8]], .ro)]), (1, .v false [(.int .i64, .nil)]), (5, .v false [(.int .i64, .nil)])], [], []⟩
def X_l_szByteSS_5 : List (Ex × Sk) := [(.ret, ⟨[(4, .v false [(.int .i64, .nil)])], [], []⟩), ((.exit 0), ⟨[(1, .v false [(.int .i64, .nil)])], [], []⟩)]
def Q_l_szByteSS : Loops := fun i st => cond (Nat.beq i 5) (lam K_l_szByteSS_5 6000000 X_l_szByteSS_5 B_l_szByteSS_5 st) <| .fail
theorem lp_l_szByteSS_5 : ∀ d, bod ⟨lookT tys, ctrOf C_l_szByteSS, kindOf C_l_szByteSS, 3, 4⟩ 0 Tryz.f61.ntmps Q_l_szByteSS (nthLoop Tryz.f61 0) K_l_szByteSS_5 6000000 X_l_szByteSS_5 d = B_l_szByteSS_5 d := fun d => by kernel_rfl
theorem lo_l_szByteSS_5 (cx : Cx) (hp : cx.pin.length ≤ 0) : LoopOk Tryz.prog cx Tryz.f61.ntmps Q_l_szByteSS (nthLoop Tryz.f61 0) := loop_of (cfgOk_of mixed tys_ok (show FnsOk Tryz.prog C_l_szByteSS from ⟨fn_l_szByteS, trivial⟩)) hp (all_of (by kernel_rfl : loopsOf (nthLoop Tryz.f61 0) = []) trivial) (by kernel_rfl) lp_l_szByteSS_5
theorem e_l_szByteSS : ∀ d, pcall ⟨lookT tys, ctrOf C_l_szByteSS, kindOf C_l_szByteSS, 3, 4⟩ 0 Q_l_szByteSS Tryz.f61 .plain (mkA P_l_szByteSS d) = (T_l_szByteSS d.1 d.2.1).run fun r => some (O_l_szByteSS r) := fun d => by kernel_rfl
theorem fn_l_szByteSS : Fn Tryz.prog 61 .plain F_l_szByteSS := fn_of (cfgOk_of mixed tys_ok (show FnsOk Tryz.prog C_l_szByteSS from ⟨fn_l_szByteS, trivial⟩)) Tryz.func61 (by kernel_rfl) (by kernel_rfl) (fun cx b hp hb => all_of (by kernel_rfl : loopsOf (Tryz.f61.body.getD .skip) = [nthLoop Tryz.f61 0]) ⟨lo_l_szByteSS_5 cx hp, trivial⟩ b hb) (R := (YI)) (T := fun (d : aden P_l_szByteSS) => T_l_szByteSS d.1 d.2.1) e_l_szByteSS
def F_l_szJar : Fun1 := funV [(true, [.sl 5 [.int .u8]]), (false, [.int .i64])] (fun d => (T_l_szJar d.1 d.2.1).val) fun r => ([rv (false, [.int .i64]) r], [])
theorem fn_l_szJar : Fn Tryz.prog 62 .plain F_l_szJar := mkF [(98, .plain, F_l_szByteS)] ⟨fn_l_szByteS, trivial⟩ Tryz.func62 (by kernel_rfl) (by kernel_rfl) (by kernel_rfl) 0 fun d => by kernel_rfl
def F_l_szDice : Fun1 := funV [(true, [.sl 5 [.int .u8], .int .i64]), (false, [.int .i64])] (fun d => (T_l_szDice d.1 d.2.1).val) fun r => ([rv (false, [.int .i64]) r], [])
theorem fn_l_szDice : Fn Tryz.prog 63 .plain F_l_szDice := mkF [(98, .plain, F_l_szByteS)] ⟨fn_l_szByteS, trivial⟩ Tryz.func63 (by kernel_rfl) (by kernel_rfl) (by kernel_rfl) 0 fun d => by kernel_rfl
def F_l_szIntS : Fun1 := funV [(false, [.sl 3 [.int .i64]]), (false, [.int .i64])] (fun d => (T_l_szIntS d.1 d.2.1).val) fun r => ([rv (false, [.int .i64]) r], [])
theorem fn_l_szIntS : Fn Tryz.prog 304 .plain F_l_szIntS := mkF [] trivial Tryz.func304 (by kernel_rfl) (by kernel_rfl) (by kernel_rfl) 0 fun d => by kernel_rfl
def F_l_szWin : Fun1 := funV [(true, [.int .i64, .sl 3 [.int .i64]]), (false, [.int .i64])] (fun d => (T_l_szWin d.1 d.2.1).val) fun r => ([rv (false, [.int .i64]) r], [])
theorem fn_l_szWin : Fn Tryz.prog 264 .plain F_l_szWin := mkF [(304, .plain, F_l_szIntS)] ⟨fn_l_szIntS, trivial⟩ Tryz.func264 (by kernel_rfl) (by kernel_rfl) (by kernel_rfl) 0 fun d => by kernel_rfl
def F_l_szEp : Fun1 := funV [(true, h_5), (false, [.int .i64])] (fun d => (T_l_szEp d.1 d.2.1).val) fun r => ([rv (false, [.int .i64]) r], [])
theorem fn_l_szEp : Fn Tryz.prog 195 .plain F_l_szEp := mkF [(98, .plain, F_l_szByteS), (264, .plain, F_l_szWin)] ⟨fn_l_szByteS, fn_l_szWin, trivial⟩ Tryz.func195 (by kernel_rfl) (by kernel_rfl) (by kernel_rfl) 0 fun d => by kernel_rfl
def F_l_szChan : Fun1 := funV [(true, h_11), (false, [.int .i64])] (fun d => (T_l_szChan d.1 d.2.1).val) fun r => ([rv (false, [.int .i64]) r], [])
theorem fn_l_szChan : Fn Tryz.prog 99 .plain F_l_szChan := mkF [(98, .plain, F_l_szByteS), (195, .plain, F_l_szEp)] ⟨fn_l_szByteS, fn_l_szEp, trivial⟩ Tryz.func99 (by kernel_rfl) (by kernel_rfl) (by kernel_rfl) 0 fun d => by kernel_rfl
def F_l_szCand : Fun1 := funV [(true, h_4), (false, [.int .i64])] (fun d => (T_l_szCand d.1 d.2.1).val) fun r => ([rv (false, [.int .i64]) r], [])
theorem fn_l_szCand : Fn Tryz.prog 282 .plain F_l_szCand := mkF [(98, .plain, F_l_szByteS)] ⟨fn_l_szByteS, trivial⟩ Tryz.func282 (by kernel_rfl) (by kernel_rfl) (by kernel_rfl) 0 fun d => by kernel_rfl
def P_l_szCandS : List (Bool × List Sh) := [(false, [.sl 272 h_4]), (false, [.int .i64])]
def O_l_szCandS (r : (YI)) : List RV × List RV := ([rv (false, [.int .i64]) r], [])
def C_l_szCandS : Fns := [(282, .plain, F_l_szCand)]
def F_l_szCandS : Fun1 := funV P_l_szCandS (fun d => (T_l_szCandS d.1 d.2.1).val) O_l_szCandS
def K_l_szCandS_5 : Sk := ⟨[(0, .v false [(.sl 272 h_4, .ro)]), (1, .v false [(.int .i64, .nil)]), (5, .v false [(.int .i64, .nil)])], [], []⟩
def X_l_szCandS_5 : List (Ex × Sk) := [(.ret, ⟨[(4, .v false [(.int .i64, .nil)])], [], []⟩), ((.exit 0), ⟨[(1, .v false [(.int .i64, .nil)])], [], []⟩)]
def Q_l_szCandS : Loops := fun i st => cond (Nat.beq i 5) (lam K_l_szCandS_5 6000000 X_l_szCandS_5 B_l_szCandS_5 st) <| .fail
theorem lp_l_szCandS_5 : ∀ d, bod ⟨lookT tys, ctrOf C_l_szCandS, kindOf C_l_szCandS, 3, 4⟩ 0 Tryz.f218.ntmps Q_l_szCandS (nthLoop Tryz.f218 0) K_l_szCandS_5 6000000 X_l_szCandS_5 d = B_l_szCandS_5 d := fun d => by kernel_rfl
theorem lo_l_szCandS_5 (cx : Cx) (hp : cx.pin.length ≤ 0) : LoopOk Tryz.prog cx Tryz.f218.ntmps Q_l_szCandS (nthLoop Tryz.f218 0) := loop_of (cfgOk_of mixed tys_ok (show FnsOk Tryz.prog C_l_szCandS from ⟨fn_l_szCand, trivial⟩)) hp (all_of (by kernel_rfl : loopsOf (nthLoop Tryz.f218 0) = []) trivial) (by kernel_rfl) lp_l_szCandS_5
theorem e_l_szCandS : ∀ d, pcall ⟨lookT tys, ctrOf C_l_szCandS, kindOf C_l_szCandS, 3, 4⟩ 0 Q_l_szCandS Tryz.f218 .plain (mkA P_l_szCandS d) = (T_l_szCandS d.1 d.2.1).run fun r => some (O_l_szCandS r) := fun d => by kernel_rfl
theorem fn_l_szCandS : Fn Tryz.prog 218 .plain F_l_szCandS := fn_of (cfgOk_of mixed tys_ok (show FnsOk Tryz.prog C_l_szCandS from ⟨fn_l_szCand, trivial⟩)) Tryz.func218 (by kernel_rfl) (by kernel_rfl) (fun cx b hp hb => all_of (by kernel_rfl : loopsOf (Tryz.f218.body.getD .skip) = [nthLoop Tryz.f218 0]) ⟨lo_l_szCandS_5 cx hp, trivial⟩ b hb) (R := (YI)) (T := fun (d : aden P_l_szCandS) => T_l_szCandS d.1 d.2.1) e_l_szCandS
def F_l_szPaths : Fun1 := funV [(true, h_6), (false, [.int .i64])] (fun d => (T_l_szPaths d.1 d.2.1).val) fun r => ([rv (false, [.int .i64]) r], [])
theorem fn_l_szPaths : Fn Tryz.prog 119 .plain F_l_szPaths := mkF [(218, .plain, F_l_szCandS)] ⟨fn_l_szCandS, trivial⟩ Tryz.func119 (by kernel_rfl) (by kernel_rfl) (by kernel_rfl) 0 fun d => by kernel_rfl
def F_l_szSess : Fun1 := funV [(true, h_12), (false, [.int .i64])] (fun d => (T_l_szSess d.1 d.2.1).val) fun r => ([rv (false, [.int .i64]) r], [])
theorem fn_l_szSess : Fn Tryz.prog 35 .plain F_l_szSess := mkF [(98, .plain, F_l_szByteS), (99, .plain, F_l_szChan), (119, .plain, F_l_szPaths)] ⟨fn_l_szByteS, fn_l_szChan, fn_l_szPaths, trivial⟩ Tryz.func35 (by kernel_rfl) (by kernel_rfl) (by kernel_rfl) 0 fun d => by kernel_rfl
def P_l_szSessS : List (Bool × List Sh) := [(false, [.sl 94 h_12]), (false, [.int .i64])]
def O_l_szSessS (r : (YI)) : List RV × List RV := ([rv (false, [.int .i64]) r], [])
def C_l_szSessS : Fns := [(35, .plain, F_l_szSess)]
def F_l_szSessS : Fun1 := funV P_l_szSessS (fun d => (T_l_szSessS d.1 d.2.1).val) O_l_szSessS
def K_l_szSessS_5 : Sk := ⟨[(0, .v false [(.sl 94 h_12, .ro)]), (1, .v false [(.int .i64, .nil)]), (5, .v false [(.int .i64, .nil)])], [], []⟩
def X_l_szSessS_5 : List (Ex × Sk) := [(.ret, ⟨[(4, .v false [(.int .i64, .nil)])], [], []⟩), ((.exit 0), ⟨[(1, .v false [(.int .i64, .nil)])], [], []⟩)]
def Q_l_szSessS : Loops := fun i st => cond (Nat.beq i 5) (lam K_l_szSessS_5 6000000 X_l_szSessS_5 B_l_szSessS_5 st) <| .fail
theorem lp_l_szSessS_5 : ∀ d, bod ⟨lookT tys, ctrOf C_l_szSessS, kindOf C_l_szSessS, 3, 4⟩ 0 Tryz.f173.ntmps Q_l_szSessS (nthLoop Tryz.f173 0) K_l_szSessS_5 6000000 X_l_szSessS_5 d = B_l_szSessS_5 d := fun d => by kernel_rfl
theorem lo_l_szSessS_5 (cx : Cx) (hp : cx.pin.length ≤ 0) : LoopOk Tryz.prog cx Tryz.f173.ntmps Q_l_szSessS (nthLoop Tryz.f173 0) := loop_of (cfgOk_of mixed tys_ok (show FnsOk Tryz.prog C_l_szSessS from ⟨fn_l_szSess, trivial⟩)) hp (all_of (by kernel_rfl : loopsOf (nthLoop Tryz.f173 0) = []) trivial) (by kernel_rfl) lp_l_szSessS_5
theorem e_l_szSessS : ∀ d, pcall ⟨lookT tys, ctrOf C_l_szSessS, kindOf C_l_szSessS, 3, 4⟩ 0 Q_l_szSessS Tryz.f173 .plain (mkA P_l_szSessS d) = (T_l_szSessS d.1 d.2.1).run fun r => some (O_l_szSessS r) := fun d => by kernel_rfl
theorem fn_l_szSessS : Fn Tryz.prog 173 .plain F_l_szSessS := fn_of (cfgOk_of mixed tys_ok (show FnsOk Tryz.prog C_l_szSessS from ⟨fn_l_szSess, trivial⟩)) Tryz.func173 (by kernel_rfl) (by kernel_rfl) (fun cx b hp hb => all_of (by kernel_rfl : loopsOf (Tryz.f173.body.getD .skip) = [nthLoop Tryz.f173 0]) ⟨lo_l_szSessS_5 cx hp, trivial⟩ b hb) (R := (YI)) (T := fun (d : aden P_l_szSessS) => T_l_szSessS d.1 d.2.1) e_l_szSessS
def F_l_szTab : Fun1 := funV [(true, [.int .i64, .sl 94 h_12]), (false, [.int .i64])] (fun d => (T_l_szTab d.1 d.2.1).val) fun r => ([rv (false, [.int .i64]) r], [])
theorem fn_l_szTab : Fn Tryz.prog 64 .plain F_l_szTab := mkF [(173, .plain, F_l_szSessS)] ⟨fn_l_szSessS, trivial⟩ Tryz.func64 (by kernel_rfl) (by kernel_rfl) (by kernel_rfl) 0 fun d => by kernel_rfl
def F_l_szCreditS : Fun1 := funV [(false, [.sl 221 h_2]), (false, [.int .i64])] (fun d => (T_l_szCreditS d.1 d.2.1).val) fun r => ([rv (false, [.int .i64]) r], [])
theorem fn_l_szCreditS : Fn Tryz.prog 65 .plain F_l_szCreditS := mkF [] trivial Tryz.func65 (by kernel_rfl) (by kernel_rfl) (by kernel_rfl) 0 fun d => by kernel_rfl
def F_l_szServer : Fun1 := funV [(true, h_14), (false, [.int .i64])] (fun d => (T_l_szServer d.1 d.2.1).val) fun r => ([rv (false, [.int .i64]) r], [])
theorem fn_l_szServer : Fn Tryz.prog 12 .plain F_l_szServer := mkF [(61, .plain, F_l_szByteSS), (62, .plain, F_l_szJar), (63, .plain, F_l_szDice), (64, .plain, F_l_szTab), (65, .plain, F_l_szCreditS)] ⟨fn_l_szByteSS, fn_l_szJar, fn_l_szDice, fn_l_szTab, fn_l_szCreditS, trivial⟩ Tryz.func12 (by kernel_rfl) (by kernel_rfl) (by kernel_rfl) 0 fun d => by kernel_rfl
def P_l_toByteS : List (Bool × List Sh) := [(false, [.sl 5 [.int .u8]])]
def O_l_toByteS (r : (YBs)) : List RV × List RV := ([rv (false, [.sl 5 [.int .u8]]) r], [])
def C_l_toByteS : Fns := []
def F_l_toByteS : Fun1 := funV P_l_toByteS (fun d => (T_l_toByteS d.1).val) O_l_toByteS
def K_l_toByteS_3 : Sk := ⟨[(0, .v false [(.sl 5 [.int .u8], .ro)]), (3, .v false [(.sl 5 [.int .u8], (.own 4000000))]), (4, .v false [(.int .i64, .nil)])], [], [4000000]⟩
def X_l_toByteS_3 : List (Ex × Sk) := [((.exit 0), ⟨[(3, .v false [(.sl 5 [.int .u8], (.own 4000000))])], [], [4000000]⟩)]
def Q_l_toByteS : Loops := fun i st => cond (Nat.beq i 3) (lam K_l_toByteS_3 4000000 X_l_toByteS_3 B_l_toByteS_3 st) <| .fail
theorem lp_l_toByteS_3 : ∀ d, bod ⟨lookT tys, ctrOf C_l_toByteS, kindOf C_l_toByteS, 3, 4⟩ 0 Tryz.f25.ntmps Q_l_toByteS (nthLoop Tryz.f25 0) K_l_toByteS_3 4000000 X_l_toByteS_3 d = B_l_toByteS_3 d := fun d => by kernel_rfl
theorem lo_l_toByteS_3 (cx : Cx) (hp : cx.pin.length ≤ 0) : LoopOk Tryz.prog cx Tryz.f25.ntmps Q_l_toByteS (nthLoop Tryz.f25 0) := loop_of (cfgOk_of mixed tys_ok (show FnsOk Tryz.prog C_l_toByteS from trivial)) hp (all_of (by kernel_rfl : loopsOf (nthLoop Tryz.f25 0) = []) trivial) (by kernel_rfl) lp_l_toByteS_3
theorem e_l_toByteS : ∀ d, pcall ⟨lookT tys, ctrOf C_l_toByteS, kindOf C_l_toByteS, 3, 4⟩ 0 Q_l_toByteS Tryz.f25 .plain (mkA P_l_toByteS d) = (T_l_toByteS d.1).run fun r => some (O_l_toByteS r) := fun d => by kernel_rfl
theorem fn_l_toByteS : Fn Tryz.prog 25 .plain F_l_toByteS := fn_of (cfgOk_of mixed tys_ok (show FnsOk Tryz.prog C_l_toByteS from trivial)) Tryz.func25 (by kernel_rfl) (by kernel_rfl) (fun cx b hp hb => all_of (by kernel_rfl : loopsOf (Tryz.f25.body.getD .skip) = [nthLoop Tryz.f25 0]) ⟨lo_l_toByteS_3 cx hp, trivial⟩ b hb) (R := (YBs)) (T := fun (d : aden P_l_toByteS) => T_l_toByteS d.1) e_l_toByteS
def P_l_toByteSS : List (Bool × List Sh) := [(false, [.sl 23 [.sl 5 [.int .u8]]])]
def O_l_toByteSS (r : ((List YBs) × Unit)) : List RV × List RV := ([rv (false, [.sl 23 [.sl 5 [.int .u8]]]) r], [])
def C_l_toByteSS : Fns := [(25, .plain, F_l_toByteS)]
def F_l_toByteSS : Fun1 := funV P_l_toByteSS (fun d => (T_l_toByteSS d.1).val) O_l_toByteSS
def K_l_toByteSS_3 : Sk := ⟨[(0, .v false [(.sl 23 [.sl 5 [.int .u8]], .ro)]), (3, .v false [(.sl 23 [.sl 5 [.int .u8]], (.own 4000000))]), (4, .v false [(.int .i64, .nil)])], [], [4000000]⟩
def X_l_toByteSS_3 : List (Ex × Sk) := [((.exit 0), ⟨[(3, .v false [(.sl 23 [.sl 5 [.int .u8]], (.own 4000000))])], [], [4000000]⟩)]
def Q_l_toByteSS : Loops := fun i st => cond (Nat.beq i 3) (lam K_l_toByteSS_3 4000000 X_l_toByteSS_3 B_l_toByteSS_3 st) <| .fail
theorem lp_l_toByteSS_3 : ∀ d, bod ⟨lookT tys, ctrOf C_l_toByteSS, kindOf C_l_toByteSS, 3, 4⟩ 0 Tryz.f71.ntmps Q_l_toByteSS (nthLoop Tryz.f71 0) K_l_toByteSS_3 4000000 X_l_toByteSS_3 d = B_l_toByteSS_3 d := fun d => by kernel_rfl
theorem lo_l_toByteSS_3 (cx : Cx) (hp : cx.pin.length ≤ 0) : LoopOk Tryz.prog cx Tryz.f71.ntmps Q_l_toByteSS (nthLoop Tryz.f71 0) := loop_of (cfgOk_of mixed tys_ok (show FnsOk Tryz.prog C_l_toByteSS from ⟨fn_l_toByteS, trivial⟩)) hp (all_of (by kernel_rfl : loopsOf (nthLoop Tryz.f71 0) = []) trivial) (by kernel_rfl) lp_l_toByteSS_3
theorem e_l_toByteSS : ∀ d, pcall ⟨lookT tys, ctrOf C_l_toByteSS, kindOf C_l_toByteSS, 3, 4⟩ 0 Q_l_toByteSS Tryz.f71 .plain (mkA P_l_toByteSS d) = (T_l_toByteSS d.1).run fun r => some (O_l_toByteSS r) := fun d => by kernel_rfl
theorem fn_l_toByteSS : Fn Tryz.prog 71 .plain F_l_toByteSS := fn_of (cfgOk_of mixed tys_ok (show FnsOk Tryz.prog C_l_toByteSS from ⟨fn_l_toByteS, trivial⟩)) Tryz.func71 (by kernel_rfl) (by kernel_rfl) (fun cx b hp hb => all_of (by kernel_rfl : loopsOf (Tryz.f71.body.getD .skip) = [nthLoop Tryz.f71 0]) ⟨lo_l_toByteSS_3 cx hp, trivial⟩ b hb) (R := ((List YBs) × Unit)) (T := fun (d : aden P_l_toByteSS) => T_l_toByteSS d.1) e_l_toByteSS
def F_l_toJar : Fun1 := funV [(true, [.sl 5 [.int .u8]])] (fun d => (T_l_toJar d.1).val) fun r => ([rv (true, [.sl 5 [.int .u8]]) r], [])
theorem fn_l_toJar : Fn Tryz.prog 72 .plain F_l_toJar := mkF [(25, .plain, F_l_toByteS)] ⟨fn_l_toByteS, trivial⟩ Tryz.func72 (by kernel_rfl) (by kernel_rfl) (by kernel_rfl) 0 fun d => by kernel_rfl
def F_l_toDice : Fun1 := funV [(true, [.sl 5 [.int .u8], .int .i64])] (fun d => (T_l_toDice d.1).val) fun r => ([rv (true, [.sl 5 [.int .u8], .int .i64]) r], [])
theorem fn_l_toDice : Fn Tryz.prog 73 .plain F_l_toDice := mkF [(25, .plain, F_l_toByteS)] ⟨fn_l_toByteS, trivial⟩ Tryz.func73 (by kernel_rfl) (by kernel_rfl) (by kernel_rfl) 0 fun d => by kernel_rfl
def P_l_toIntS : List (Bool × List Sh) := [(false, [.sl 3 [.int .i64]])]
def O_l_toIntS (r : ((List YI) × Unit)) : List RV × List RV := ([rv (false, [.sl 3 [.int .i64]]) r], [])
def C_l_toIntS : Fns := []
def F_l_toIntS : Fun1 := funV P_l_toIntS (fun d => (T_l_toIntS d.1).val) O_l_toIntS
def K_l_toIntS_3 : Sk := ⟨[(0, .v false [(.sl 3 [.int .i64], .ro)]), (3, .v false [(.sl 3 [.int .i64], (.own 4000000))]), (4, .v false [(.int .i64, .nil)])], [], [4000000]⟩
def X_l_toIntS_3 : List (Ex × Sk) := [((.exit 0), ⟨[(3, .v false [(.sl 3 [.int .i64], (.own 4000000))])], [], [4000000]⟩)]
def Q_l_toIntS : Loops := fun i st => cond (Nat.beq i 3) (lam K_l_toIntS_3 4000000 X_l_toIntS_3 B_l_toIntS_3 st) <| .fail
theorem lp_l_toIntS_3 : ∀ d, bod ⟨lookT tys, ctrOf C_l_toIntS, kindOf C_l_toIntS, 3, 4⟩ 0 Tryz.f308.ntmps Q_l_toIntS (nthLoop Tryz.f308 0) K_l_toIntS_3 4000000 X_l_toIntS_3 d = B_l_toIntS_3 d := fun d => by kernel_rfl
theorem lo_l_toIntS_3 (cx : Cx) (hp : cx.pin.length ≤ 0) : LoopOk Tryz.prog cx Tryz.f308.ntmps Q_l_toIntS (nthLoop Tryz.f308 0) := loop_of (cfgOk_of mixed tys_ok (show FnsOk Tryz.prog C_l_toIntS from trivial)) hp (all_of (by kernel_rfl : loopsOf (nthLoop Tryz.f308 0) = []) trivial) (by kernel_rfl) lp_l_toIntS_3
theorem e_l_toIntS : ∀ d, pcall ⟨lookT tys, ctrOf C_l_toIntS, kindOf C_l_toIntS, 3, 4⟩ 0 Q_l_toIntS Tryz.f308 .plain (mkA P_l_toIntS d) = (T_l_toIntS d.1).run fun r => some (O_l_toIntS r) := fun d => by kernel_rfl
theorem fn_l_toIntS : Fn Tryz.prog 308 .plain F_l_toIntS := fn_of (cfgOk_of mixed tys_ok (show FnsOk Tryz.prog C_l_toIntS from trivial)) Tryz.func308 (by kernel_rfl) (by kernel_rfl) (fun cx b hp hb => all_of (by kernel_rfl : loopsOf (Tryz.f308.body.getD .skip) = [nthLoop Tryz.f308 0]) ⟨lo_l_toIntS_3 cx hp, trivial⟩ b hb) (R := ((List YI) × Unit)) (T := fun (d : aden P_l_toIntS) => T_l_toIntS d.1) e_l_toIntS
def F_l_toWin : Fun1 := funV [(true, [.int .i64, .sl 3 [.int .i64]])] (fun d => (T_l_toWin d.1).val) fun r => ([rv (true, [.int .i64, .sl 3 [.int .i64]]) r], [])
theorem fn_l_toWin : Fn Tryz.prog 270 .plain F_l_toWin := mkF [(308, .plain, F_l_toIntS)] ⟨fn_l_toIntS, trivial⟩ Tryz.func270 (by kernel_rfl) (by kernel_rfl) (by kernel_rfl) 0 fun d => by kernel_rfl
def F_l_toEp : Fun1 := funV [(true, h_5)] (fun d => (T_l_toEp d.1).val) fun r => ([rv (true, h_5) r], [])
theorem fn_l_toEp : Fn Tryz.prog 203 .plain F_l_toEp := mkF [(25, .plain, F_l_toByteS), (270, .plain, F_l_toWin)] ⟨fn_l_toByteS, fn_l_toWin, trivial⟩ Tryz.func203 (by kernel_rfl) (by kernel_rfl) (by kernel_rfl) 0 fun d => by kernel_rfl
def F_l_toChan : Fun1 := funV [(true, h_11)] (fun d => (T_l_toChan d.1).val) fun r => ([rv (true, h_11) r], [])
theorem fn_l_toChan : Fn Tryz.prog 105 .plain F_l_toChan := mkF [(25, .plain, F_l_toByteS), (203, .plain, F_l_toEp)] ⟨fn_l_toByteS, fn_l_toEp, trivial⟩ Tryz.func105 (by kernel_rfl) (by kernel_rfl) (by kernel_rfl) 0 fun d => by kernel_rfl
def F_l_toAddr : Fun1 := funV [(true, [.int .i64, .int .i64])] (fun d => (T_l_toAddr d.1).val) fun r => ([rv (true, [.int .i64, .int .i64]) r], [])
theorem fn_l_toAddr : Fn Tryz.prog 104 .plain F_l_toAddr := mkF [] trivial Tryz.func104 (by kernel_rfl) (by kernel_rfl) (by kernel_rfl) 0 fun d => by kernel_rfl
def F_l_toCand : Fun1 := funV [(true, h_4)] (fun d => (T_l_toCand d.1).val) fun r => ([rv (true, h_4) r], [])
theorem fn_l_toCand : Fn Tryz.prog 284 .plain F_l_toCand := mkF [(104, .plain, F_l_toAddr), (25, .plain, F_l_toByteS)] ⟨fn_l_toAddr, fn_l_toByteS, trivial⟩ Tryz.func284 (by kernel_rfl) (by kernel_rfl) (by kernel_rfl) 0 fun d => by kernel_rfl
def P_l_toCandS : List (Bool × List Sh) := [(false, [.sl 272 h_4])]
def O_l_toCandS (r : ((List YCand) × Unit)) : List RV × List RV := ([rv (false, [.sl 274 h_4]) r], [])
def C_l_toCandS : Fns := [(284, .plain, F_l_toCand)]
def F_l_toCandS : Fun1 := funV P_l_toCandS (fun d => (T_l_toCandS d.1).val) O_l_toCandS
def K_l_toCandS_3 : Sk := ⟨[(0, .v false [(.sl 272 h_4, .ro)]), (3, .v false [(.sl 274 h_4, (.own 4000000))]), (4, .v false [(.int .i64, .nil)])], [], [4000000]⟩
def X_l_toCandS_3 : List (Ex × Sk) := [((.exit 0), ⟨[(3, .v false [(.sl 274 h_4, (.own 4000000))])], [], [4000000]⟩)]
def Q_l_toCandS : Loops := fun i st => cond (Nat.beq i 3) (lam K_l_toCandS_3 4000000 X_l_toCandS_3 B_l_toCandS_3 st) <| .fail
theorem lp_l_toCandS_3 : ∀ d, bod ⟨lookT tys, ctrOf C_l_toCandS, kindOf C_l_toCandS, 3, 4⟩ 0 Tryz.f222.ntmps Q_l_toCandS (nthLoop Tryz.f222 0) K_l_toCandS_3 4000000 X_l_toCandS_3 d = B_l_toCandS_3 d := fun d => by kernel_rfl
theorem lo_l_toCandS_3 (cx : Cx) (hp : cx.pin.length ≤ 0) : LoopOk Tryz.prog cx Tryz.f222.ntmps Q_l_toCandS (nthLoop Tryz.f222 0) := loop_of (cfgOk_of mixed tys_ok (show FnsOk Tryz.prog C_l_toCandS from ⟨fn_l_toCand, trivial⟩)) hp (all_of (by kernel_rfl : loopsOf (nthLoop Tryz.f222 0) = []) trivial) (by kernel_rfl) lp_l_toCandS_3
theorem e_l_toCandS : ∀ d, pcall ⟨lookT tys, ctrOf C_l_toCandS, kindOf C_l_toCandS, 3, 4⟩ 0 Q_l_toCandS Tryz.f222 .plain (mkA P_l_toCandS d) = (T_l_toCandS d.1).run fun r => some (O_l_toCandS r) := fun d => by kernel_rfl
theorem fn_l_toCandS : Fn Tryz.prog 222 .plain F_l_toCandS := fn_of (cfgOk_of mixed tys_ok (show FnsOk Tryz.prog C_l_toCandS from ⟨fn_l_toCand, trivial⟩)) Tryz.func222 (by kernel_rfl) (by kernel_rfl) (fun cx b hp hb => all_of (by kernel_rfl : loopsOf (Tryz.f222.body.getD .skip) = [nthLoop Tryz.f222 0]) ⟨lo_l_toCandS_3 cx hp, trivial⟩ b hb) (R := ((List YCand) × Unit)) (T := fun (d : aden P_l_toCandS) => T_l_toCandS d.1) e_l_toCandS
def F_l_toPaths : Fun1 := funV [(true, h_6)] (fun d => (T_l_toPaths d.1).val) fun r => ([rv (true, h_7) r], [])
theorem fn_l_toPaths : Fn Tryz.prog 122 .plain F_l_toPaths := mkF [(104, .plain, F_l_toAddr), (222, .plain, F_l_toCandS)] ⟨fn_l_toAddr, fn_l_toCandS, trivial⟩ Tryz.func122 (by kernel_rfl) (by kernel_rfl) (by kernel_rfl) 0 fun d => by kernel_rfl
def F_l_toSess : Fun1 := funV [(true, h_12)] (fun d => (T_l_toSess d.1).val) fun r => ([rv (true, h_13) r], [])
theorem fn_l_toSess : Fn Tryz.prog 37 .plain F_l_toSess := mkF [(25, .plain, F_l_toByteS), (105, .plain, F_l_toChan), (122, .plain, F_l_toPaths)] ⟨fn_l_toByteS, fn_l_toChan, fn_l_toPaths, trivial⟩ Tryz.func37 (by kernel_rfl) (by kernel_rfl) (by kernel_rfl) 0 fun d => by kernel_rfl
def P_l_toSessS : List (Bool × List Sh) := [(false, [.sl 94 h_12])]
def O_l_toSessS (r : ((List YSess) × Unit)) : List RV × List RV := ([rv (false, [.sl 100 h_13]) r], [])
def C_l_toSessS : Fns := [(37, .plain, F_l_toSess)]
def F_l_toSessS : Fun1 := funV P_l_toSessS (fun d => (T_l_toSessS d.1).val) O_l_toSessS
def K_l_toSessS_3 : Sk := ⟨[(0, .v false [(.sl 94 h_12, .ro)]), (3, .v false [(.sl 100 h_13, (.own 4000000))]), (4, .v false [(.int .i64, .nil)])], [], [4000000]⟩
def X_l_toSessS_3 : List (Ex × Sk) := [((.exit 0), ⟨[(3, .v false [(.sl 100 h_13, (.own 4000000))])], [], [4000000]⟩)]
def Q_l_toSessS : Loops := fun i st => cond (Nat.beq i 3) (lam K_l_toSessS_3 4000000 X_l_toSessS_3 B_l_toSessS_3 st) <| .fail
theorem lp_l_toSessS_3 : ∀ d, bod ⟨lookT tys, ctrOf C_l_toSessS, kindOf C_l_toSessS, 3, 4⟩ 0 Tryz.f181.ntmps Q_l_toSessS (nthLoop Tryz.f181 0) K_l_toSessS_3 4000000 X_l_toSessS_3 d = B_l_toSessS_3 d := fun d => by kernel_rfl
theorem lo_l_toSessS_3 (cx : Cx) (hp : cx.pin.length ≤ 0) : LoopOk Tryz.prog cx Tryz.f181.ntmps Q_l_toSessS (nthLoop Tryz.f181 0) := loop_of (cfgOk_of mixed tys_ok (show FnsOk Tryz.prog C_l_toSessS from ⟨fn_l_toSess, trivial⟩)) hp (all_of (by kernel_rfl : loopsOf (nthLoop Tryz.f181 0) = []) trivial) (by kernel_rfl) lp_l_toSessS_3
theorem e_l_toSessS : ∀ d, pcall ⟨lookT tys, ctrOf C_l_toSessS, kindOf C_l_toSessS, 3, 4⟩ 0 Q_l_toSessS Tryz.f181 .plain (mkA P_l_toSessS d) = (T_l_toSessS d.1).run fun r => some (O_l_toSessS r) := fun d => by kernel_rfl
theorem fn_l_toSessS : Fn Tryz.prog 181 .plain F_l_toSessS := fn_of (cfgOk_of mixed tys_ok (show FnsOk Tryz.prog C_l_toSessS from ⟨fn_l_toSess, trivial⟩)) Tryz.func181 (by kernel_rfl) (by kernel_rfl) (fun cx b hp hb => all_of (by kernel_rfl : loopsOf (Tryz.f181.body.getD .skip) = [nthLoop Tryz.f181 0]) ⟨lo_l_toSessS_3 cx hp, trivial⟩ b hb) (R := ((List YSess) × Unit)) (T := fun (d : aden P_l_toSessS) => T_l_toSessS d.1) e_l_toSessS
def F_l_toTab : Fun1 := funV [(true, [.int .i64, .sl 94 h_12])] (fun d => (T_l_toTab d.1).val) fun r => ([rv (true, [.int .i64, .sl 100 h_13]) r], [])
theorem fn_l_toTab : Fn Tryz.prog 74 .plain F_l_toTab := mkF [(181, .plain, F_l_toSessS)] ⟨fn_l_toSessS, trivial⟩ Tryz.func74 (by kernel_rfl) (by kernel_rfl) (by kernel_rfl) 0 fun d => by kernel_rfl
def F_l_toCredit : Fun1 := funV [(true, h_2)] (fun d => (T_l_toCredit d.1).val) fun r => ([rv (true, h_2) r], [])
theorem fn_l_toCredit : Fn Tryz.prog 182 .plain F_l_toCredit := mkF [(104, .plain, F_l_toAddr)] ⟨fn_l_toAddr, trivial⟩ Tryz.func182 (by kernel_rfl) (by kernel_rfl) (by kernel_rfl) 0 fun d => by kernel_rfl
def P_l_toCreditS : List (Bool × List Sh) := [(false, [.sl 221 h_2])]
def O_l_toCreditS (r : ((List YCredit) × Unit)) : List RV × List RV := ([rv (false, [.sl 218 h_2]) r], [])
def C_l_toCreditS : Fns := [(182, .plain, F_l_toCredit)]
def F_l_toCreditS : Fun1 := funV P_l_toCreditS (fun d => (T_l_toCreditS d.1).val) O_l_toCreditS
def K_l_toCreditS_3 : Sk := ⟨[(0, .v false [(.sl 221 h_2, .ro)]), (3, .v false [(.sl 218 h_2, (.own 4000000))]), (4, .v false [(.int .i64, .nil)])], [], [4000000]⟩
def X_l_toCreditS_3 : List (Ex × Sk) := [((.exit 0), ⟨[(3, .v false [(.sl 218 h_2, (.own 4000000))])], [], [4000000]⟩)]
def Q_l_toCreditS : Loops := fun i st => cond (Nat.beq i 3) (lam K_l_toCreditS_3 4000000 X_l_toCreditS_3 B_l_toCreditS_3 st) <| .fail
theorem lp_l_toCreditS_3 : ∀ d, bod ⟨lookT tys, ctrOf C_l_toCreditS, kindOf C_l_toCreditS, 3, 4⟩ 0 Tryz.f75.ntmps Q_l_toCreditS (nthLoop Tryz.f75 0) K_l_toCreditS_3 4000000 X_l_toCreditS_3 d = B_l_toCreditS_3 d := fun d => by kernel_rfl
theorem lo_l_toCreditS_3 (cx : Cx) (hp : cx.pin.length ≤ 0) : LoopOk Tryz.prog cx Tryz.f75.ntmps Q_l_toCreditS (nthLoop Tryz.f75 0) := loop_of (cfgOk_of mixed tys_ok (show FnsOk Tryz.prog C_l_toCreditS from ⟨fn_l_toCredit, trivial⟩)) hp (all_of (by kernel_rfl : loopsOf (nthLoop Tryz.f75 0) = []) trivial) (by kernel_rfl) lp_l_toCreditS_3
theorem e_l_toCreditS : ∀ d, pcall ⟨lookT tys, ctrOf C_l_toCreditS, kindOf C_l_toCreditS, 3, 4⟩ 0 Q_l_toCreditS Tryz.f75 .plain (mkA P_l_toCreditS d) = (T_l_toCreditS d.1).run fun r => some (O_l_toCreditS r) := fun d => by kernel_rfl
theorem fn_l_toCreditS : Fn Tryz.prog 75 .plain F_l_toCreditS := fn_of (cfgOk_of mixed tys_ok (show FnsOk Tryz.prog C_l_toCreditS from ⟨fn_l_toCredit, trivial⟩)) Tryz.func75 (by kernel_rfl) (by kernel_rfl) (fun cx b hp hb => all_of (by kernel_rfl : loopsOf (Tryz.f75.body.getD .skip) = [nthLoop Tryz.f75 0]) ⟨lo_l_toCreditS_3 cx hp, trivial⟩ b hb) (R := ((List YCredit) × Unit)) (T := fun (d : aden P_l_toCreditS) => T_l_toCreditS d.1) e_l_toCreditS
def F_l_toServer : Fun1 := funV [(true, h_14)] (fun d => (T_l_toServer d.1).val) fun r => ([rv (true, h_15) r], [])
theorem fn_l_toServer : Fn Tryz.prog 14 .plain F_l_toServer := mkF [(71, .plain, F_l_toByteSS), (72, .plain, F_l_toJar), (73, .plain, F_l_toDice), (74, .plain, F_l_toTab), (75, .plain, F_l_toCreditS)] ⟨fn_l_toByteSS, fn_l_toJar, fn_l_toDice, fn_l_toTab, fn_l_toCreditS, trivial⟩ Tryz.func14 (by kernel_rfl) (by kernel_rfl) (by kernel_rfl) 0 fun d => by kernel_rfl
def F_s_l10Copy : Fun1 := funV [(true, [.sl 5 [.int .u8], .int .i64])] (fun d => (T_s_l10Copy d.1).val) fun r => ([rv (true, [.sl 5 [.int .u8], .int .i64]) r], [])
theorem fn_s_l10Copy : Fn Tryz.prog 174 .plain F_s_l10Copy := mkF [] trivial Tryz.func174 (by kernel_rfl) (by kernel_rfl) (by kernel_rfl) 0 fun d => by kernel_rfl
def F_s_l8Copy : Fun1 := funV [(true, [.int .i64, .sl 3 [.int .i64]])] (fun d => (T_s_l8Copy d.1).val) fun r => ([rv (true, [.int .i64, .sl 3 [.int .i64]]) r], [])
theorem fn_s_l8Copy : Fn Tryz.prog 305 .plain F_s_l8Copy := mkF [] trivial Tryz.func305 (by kernel_rfl) (by kernel_rfl) (by kernel_rfl) 0 fun d => by kernel_rfl
def F_s_l9Copy : Fun1 := funV [(true, h_5)] (fun d => (T_s_l9Copy d.1).val) fun r => ([rv (true, h_5) r], [])
theorem fn_s_l9Copy : Fn Tryz.prog 265 .plain F_s_l9Copy := mkF [(305, .plain, F_s_l8Copy)] ⟨fn_s_l8Copy, trivial⟩ Tryz.func265 (by kernel_rfl) (by kernel_rfl) (by kernel_rfl) 0 fun d => by kernel_rfl
def F_s_l14Ep : Fun1 := funV [(true, h_5), (false, [.bool])] (fun d => (T_s_l14Ep d.1 d.2.1).val) fun r => ([rv (true, h_5) r], [])
theorem fn_s_l14Ep : Fn Tryz.prog 266 .plain F_s_l14Ep := mkF [(265, .plain, F_s_l9Copy)] ⟨fn_s_l9Copy, trivial⟩ Tryz.func266 (by kernel_rfl) (by kernel_rfl) (by kernel_rfl) 0 fun d => by kernel_rfl
def F_s_l14Copy : Fun1 := funV [(true, h_11)] (fun d => (T_s_l14Copy d.1).val) fun r => ([rv (true, h_11) r], [])
theorem fn_s_l14Copy : Fn Tryz.prog 196 .plain F_s_l14Copy := mkF [(265, .plain, F_s_l9Copy), (266, .plain, F_s_l14Ep)] ⟨fn_s_l9Copy, fn_s_l14Ep, trivial⟩ Tryz.func196 (by kernel_rfl) (by kernel_rfl) (by kernel_rfl) 0 fun d => by kernel_rfl
def F_s_l16Cand : Fun1 := funV [(true, h_4)] (fun d => (T_s_l16Cand d.1).val) fun r => ([rv (true, h_4) r], [])
theorem fn_s_l16Cand : Fn Tryz.prog 283 .plain F_s_l16Cand := mkF [] trivial Tryz.func283 (by kernel_rfl) (by kernel_rfl) (by kernel_rfl) 0 fun d => by kernel_rfl
def P_s_l16Copy : List (Bool × List Sh) := [(true, h_7)]
def O_s_l16Copy (r : (YPaths)) : List RV × List RV := ([rv (true, h_7) r], [])
def C_s_l16Copy : Fns := [(283, .plain, F_s_l16Cand)]
def F_s_l16Copy : Fun1 := funV P_s_l16Copy (fun d => (T_s_l16Copy d.1).val) O_s_l16Copy
def K_s_l16Copy_3 : Sk := ⟨[(1, .box 1 0), (2, .box 2 0), (3, .box 3 0), (4, .v false [(.int .i64, .nil)])], [(1, [(.int .i64, .nil), (.int .i64, .nil), (.sl 274 h_4, .ro)]), (2, [(.int .i64, .nil), (.int .i64, .nil), (.sl 274 h_4, (.own 4000000))]), (3, [(.int .i64, .nil), (.int .i64, .nil), (.sl 274 h_4, (.own 4000001))])], [4000000, 4000001]⟩
def X_s_l16Copy_3 : List (Ex × Sk) := [((.exit 0), ⟨[(2, .box 2 0), (3, .box 3 0)], [(2, [(.int .i64, .nil), (.int .i64, .nil), (.sl 274 h_4, (.own 4000000))]), (3, [(.int .i64, .nil), (.int .i64, .nil), (.sl 274 h_4, (.own 4000001))])], [4000000, 4000001]⟩)]
def Q_s_l16Copy : Loops := fun i st => cond (Nat.beq i 3) (lam K_s_l16Copy_3 4000000 X_s_l16Copy_3 B_s_l16Copy_3 st) <| .fail
theorem lp_s_l16Copy_3 : ∀ d, bod ⟨lookT tys, ctrOf C_s_l16Copy, kindOf C_s_l16Copy, 3, 4⟩ 0 Tryz.f219.ntmps Q_s_l16Copy (nthLoop Tryz.f219 0) K_s_l16Copy_3 4000000 X_s_l16Copy_3 d = B_s_l16Copy_3 d := fun d => by kernel_rfl
theorem lo_s_l16Copy_3 (cx : Cx) (hp : cx.pin.length ≤ 0) : LoopOk Tryz.prog cx Tryz.f219.ntmps Q_s_l16Copy (nthLoop Tryz.f219 0) := loop_of (cfgOk_of mixed tys_ok (show FnsOk Tryz.prog C_s_l16Copy from ⟨fn_s_l16Cand, trivial⟩)) hp (all_of (by kernel_rfl : loopsOf (nthLoop Tryz.f219 0) = []) trivial) (by kernel_rfl) lp_s_l16Copy_3
theorem e_s_l16Copy : ∀ d, pcall ⟨lookT tys, ctrOf C_s_l16Copy, kindOf C_s_l16Copy, 3, 4⟩ 0 Q_s_l16Copy Tryz.f219 .plain (mkA P_s_l16Copy d) = (T_s_l16Copy d.1).run fun r => some (O_s_l16Copy r) := fun d => by kernel_rfl
theorem fn_s_l16Copy : Fn Tryz.prog 219 .plain F_s_l16Copy := fn_of (cfgOk_of mixed tys_ok (show FnsOk Tryz.prog C_s_l16Copy from ⟨fn_s_l16Cand, trivial⟩)) Tryz.func219 (by kernel_rfl) (by kernel_rfl) (fun cx b hp hb => all_of (by kernel_rfl : loopsOf (Tryz.f219.body.getD .skip) = [nthLoop Tryz.f219 0]) ⟨lo_s_l16Copy_3 cx hp, trivial⟩ b hb) (R := (YPaths)) (T := fun (d : aden P_s_l16Copy) => T_s_l16Copy d.1) e_s_l16Copy
def F_s_l20Copy : Fun1 := funV [(true, h_13)] (fun d => (T_s_l20Copy d.1).val) fun r => ([rv (true, h_13) r], [])
theorem fn_s_l20Copy : Fn Tryz.prog 120 .plain F_s_l20Copy := mkF [(196, .plain, F_s_l14Copy), (219, .plain, F_s_l16Copy)] ⟨fn_s_l14Copy, fn_s_l16Copy, trivial⟩ Tryz.func120 (by kernel_rfl) (by kernel_rfl) (by kernel_rfl) 0 fun d => by kernel_rfl
def P_s_l21Copy : List (Bool × List Sh) := [(true, [.int .i64, .sl 100 h_13])]
def O_s_l21Copy (r : (YTab)) : List RV × List RV := ([rv (true, [.int .i64, .sl 100 h_13]) r], [])
def C_s_l21Copy : Fns := [(120, .plain, F_s_l20Copy)]
def F_s_l21Copy : Fun1 := funV P_s_l21Copy (fun d => (T_s_l21Copy d.1).val) O_s_l21Copy
def K_s_l21Copy_3 : Sk := ⟨[(1, .box 1 0), (2, .box 2 0), (3, .box 3 0), (4, .v false [(.int .i64, .nil)])], [(1, [(.int .i64, .nil), (.sl 100 h_13, .ro)]), (2, [(.int .i64, .nil), (.sl 100 h_13, (.own 4000000))]), (3, [(.int .i64, .nil), (.sl 100 h_13, (.own 4000001))])], [4000000, 4000001]⟩
def X_s_l21Copy_3 : List (Ex × Sk) := [((.exit 0), ⟨[(2, .box 2 0), (3, .box 3 0)], [(2, [(.int .i64, .nil), (.sl 100 h_13, (.own 4000000))]), (3, [(.int .i64, .nil), (.sl 100 h_13, (.own 4000001))])], [4000000, 4000001]⟩)]
def Q_s_l21Copy : Loops := fun i st => cond (Nat.beq i 3) (lam K_s_l21Copy_3 4000000 X_s_l21Copy_3 B_s_l21Copy_3 st) <| .fail
theorem lp_s_l21Copy_3 : ∀ d, bod ⟨lookT tys, ctrOf C_s_l21Copy, kindOf C_s_l21Copy, 3, 4⟩ 0 Tryz.f175.ntmps Q_s_l21Copy (nthLoop Tryz.f175 0) K_s_l21Copy_3 4000000 X_s_l21Copy_3 d = B_s_l21Copy_3 d := fun d => by kernel_rfl
theorem lo_s_l21Copy_3 (cx : Cx) (hp : cx.pin.length ≤ 0) : LoopOk Tryz.prog cx Tryz.f175.ntmps Q_s_l21Copy (nthLoop Tryz.f175 0) := loop_of (cfgOk_of mixed tys_ok (show FnsOk Tryz.prog C_s_l21Copy from ⟨fn_s_l20Copy, trivial⟩)) hp (all_of (by kernel_rfl : loopsOf (nthLoop Tryz.f175 0) = []) trivial) (by kernel_rfl) lp_s_l21Copy_3
theorem e_s_l21Copy : ∀ d, pcall ⟨lookT tys, ctrOf C_s_l21Copy, kindOf C_s_l21Copy, 3, 4⟩ 0 Q_s_l21Copy Tryz.f175 .plain (mkA P_s_l21Copy d) = (T_s_l21Copy d.1).run fun r => some (O_s_l21Copy r) := fun d => by kernel_rfl
theorem fn_s_l21Copy : Fn Tryz.prog 175 .plain F_s_l21Copy := fn_of (cfgOk_of mixed tys_ok (show FnsOk Tryz.prog C_s_l21Copy from ⟨fn_s_l20Copy, trivial⟩)) Tryz.func175 (by kernel_rfl) (by kernel_rfl) (fun cx b hp hb => all_of (by kernel_rfl : loopsOf (Tryz.f175.body.getD .skip) = [nthLoop Tryz.f175 0]) ⟨lo_s_l21Copy_3 cx hp, trivial⟩ b hb) (R := (YTab)) (T := fun (d : aden P_s_l21Copy) => T_s_l21Copy d.1) e_s_l21Copy
def P_s_l22Copy : List (Bool × List Sh) := [(true, h_15)]
def O_s_l22Copy (r : (YServer)) : List RV × List RV := ([rv (true, h_15) r], [])
def C_s_l22Copy : Fns := [(174, .plain, F_s_l10Copy), (175, .plain, F_s_l21Copy)]
def F_s_l22Copy : Fun1 := funV P_s_l22Copy (fun d => (T_s_l22Copy d.1).val) O_s_l22Copy
def K_s_l22Copy_3 : Sk := ⟨[(1, .box 1 0), (2, .box 2 0), (3, .box 3 0), (4, .v false [(.int .i64, .nil)])], [(1, [(.sl 23 [.sl 5 [.int .u8]], .ro), (.sl 5 [.int .u8], .ro), (.sl 5 [.int .u8], .ro), (.int .i64, .nil), (.int .i64, .nil), (.sl 100 h_13, .ro), (.sl 218 h_2, .ro)]), (2, [(.sl 23 [.sl 5 [.int .u8]], (.own 4000000)), (.sl 5 [.int .u8], (.own 4000001)), (.sl 5 [.int .u8], (.own 4000002)), (.int .i64, .nil), (.int .i64, .nil), (.sl 100 h_13, (.own 4000003)), (.sl 218 h_2, (.own 4000004))]), (3, [(.sl 23 [.sl 5 [.int .u8]], (.own 4000005)), (.sl 5 [.int .u8], (.own 4000006)), (.sl 5 [.int .u8], (.own 4000007)), (.int .i64, .nil), (.int .i64, .nil), (.sl 100 h_13, (.own 4000008)), (.sl 218 h_2, (.own 4000009))])], [4000000, 4000001, 4000002, 4000003, 4000004, 4000005, 4000006, 4000007, 4000008, 4000009]⟩
def X_s_l22Copy_3 : List (Ex × Sk) := [((.exit 0), ⟨[(2, .box 2 0), (3, .box 3 0)], [(2, [(.sl 23 [.sl 5 [.int .u8]], (.own 4000000)), (.sl 5 [.int .u8], (.own 4000001)), (.sl 5 [.int .u8], (.own 4000002)), (.int .i64, .nil), (.int .i64, .nil), (.sl 100 h_13, (.own 4000003)), (.sl 218 h_2, (.own 4000004))]), (3, [(.sl 23 [.sl 5 [.int .u8]], (.own 4000005)), (.sl 5 [.int .u8], (.own 4000006)), (.sl 5 [.int .u8], (.own 4000007)), (.int .i64, .nil), (.int .i64, .nil), (.sl 100 h_13, (.own 4000008)), (.sl 218 h_2, (.own 4000009))])], [4000000, 4000001, 4000002, 4000003, 4000004, 4000005, 4000006, 4000007, 4000008, 4000009]⟩)]
def Q_s_l22Copy : Loops := fun i st => cond (Nat.beq i 3) (lam K_s_l22Copy_3 4000000 X_s_l22Copy_3 B_s_l22Copy_3 st) <| .fail
theorem lp_s_l22Copy_3 : ∀ d, bod ⟨lookT tys, ctrOf C_s_l22Copy, kindOf C_s_l22Copy, 3, 4⟩ 0 Tryz.f66.ntmps Q_s_l22Copy (nthLoop Tryz.f66 0) K_s_l22Copy_3 4000000 X_s_l22Copy_3 d = B_s_l22Copy_3 d := fun d => by kernel_rfl
theorem lo_s_l22Copy_3 (cx : Cx) (hp : cx.pin.length ≤ 0) : LoopOk Tryz.prog cx Tryz.f66.ntmps Q_s_l22Copy (nthLoop Tryz.f66 0) := loop_of (cfgOk_of mixed tys_ok (show FnsOk Tryz.prog C_s_l22Copy from ⟨fn_s_l10Copy, fn_s_l21Copy, trivial⟩)) hp (all_of (by kernel_rfl : loopsOf (nthLoop Tryz.f66 0) = []) trivial) (by kernel_rfl) lp_s_l22Copy_3
theorem e_s_l22Copy : ∀ d, pcall ⟨lookT tys, ctrOf C_s_l22Copy, kindOf C_s_l22Copy, 3, 4⟩ 0 Q_s_l22Copy Tryz.f66 .plain (mkA P_s_l22Copy d) = (T_s_l22Copy d.1).run fun r => some (O_s_l22Copy r) := fun d => by kernel_rfl
theorem fn_s_l22Copy : Fn Tryz.prog 66 .plain F_s_l22Copy := fn_of (cfgOk_of mixed tys_ok (show FnsOk Tryz.prog C_s_l22Copy from ⟨fn_s_l10Copy, fn_s_l21Copy, trivial⟩)) Tryz.func66 (by kernel_rfl) (by kernel_rfl) (fun cx b hp hb => all_of (by kernel_rfl : loopsOf (Tryz.f66.body.getD .skip) = [nthLoop Tryz.f66 0]) ⟨lo_s_l22Copy_3 cx hp, trivial⟩ b hb) (R := (YServer)) (T := fun (d : aden P_s_l22Copy) => T_s_l22Copy d.1) e_s_l22Copy
def F_s_l1In : Fun1 := funV [(false, [.int .i64]), (false, [.int .i64]), (false, [.int .i64])] (fun d => (T_s_l1In d.1 d.2.1 d.2.2.1).val) fun r => ([rv (false, [.bool]) r], [])
theorem fn_s_l1In : Fn Tryz.prog 68 .plain F_s_l1In := mkF [] trivial Tryz.func68 (by kernel_rfl) (by kernel_rfl) (by kernel_rfl) 0 fun d => by kernel_rfl
def F_s_JarOk : Fun1 := funV [(true, [.sl 5 [.int .u8]])] (fun d => (T_s_JarOk d.1).val) fun r => ([rv (false, [.bool]) r], [])
theorem fn_s_JarOk : Fn Tryz.prog 176 .plain F_s_JarOk := mkF [] trivial Tryz.func176 (by kernel_rfl) (by kernel_rfl) (by kernel_rfl) 0 fun d => by kernel_rfl
def F_s_DiceOk : Fun1 := funV [(true, [.sl 5 [.int .u8], .int .i64])] (fun d => (T_s_DiceOk d.1).val) fun r => ([rv (false, [.bool]) r], [])
theorem fn_s_DiceOk : Fn Tryz.prog 177 .plain F_s_DiceOk := mkF [(68, .plain, F_s_l1In)] ⟨fn_s_l1In, trivial⟩ Tryz.func177 (by kernel_rfl) (by kernel_rfl) (by kernel_rfl) 0 fun d => by kernel_rfl
def P_s_Live : List (Bool × List Sh) := [(true, [.int .i64, .sl 100 h_13])]
def O_s_Live (r : (YI)) : List RV × List RV := ([rv (false, [.int .i64]) r], [])
def C_s_Live : Fns := []
def F_s_Live : Fun1 := funV P_s_Live (fun d => (T_s_Live d.1).val) O_s_Live
def K_s_Live_3 : Sk := ⟨[(1, .box 1 0), (3, .v false [(.int .i64, .nil)]), (4, .v false [(.int .i64, .nil)])], [(1, [(.int .i64, .nil), (.sl 100 h_13, .ro)])], []⟩
def X_s_Live_3 : List (Ex × Sk) := [((.exit 0), ⟨[(3, .v false [(.int .i64, .nil)])], [], []⟩)]
def Q_s_Live : Loops := fun i st => cond (Nat.beq i 3) (lam K_s_Live_3 4000000 X_s_Live_3 B_s_Live_3 st) <| .fail
theorem lp_s_Live_3 : ∀ d, bod ⟨lookT tys, ctrOf C_s_Live, kindOf C_s_Live, 3, 4⟩ 0 Tryz.f257.ntmps Q_s_Live (nthLoop Tryz.f257 0) K_s_Live_3 4000000 X_s_Live_3 d = B_s_Live_3 d := fun d => by kernel_rfl
theorem lo_s_Live_3 (cx : Cx) (hp : cx.pin.length ≤ 0) : LoopOk Tryz.prog cx Tryz.f257.ntmps Q_s_Live (nthLoop Tryz.f257 0) := loop_of (cfgOk_of mixed tys_ok (show FnsOk Tryz.prog C_s_Live from trivial)) hp (all_of (by kernel_rfl : loopsOf (nthLoop Tryz.f257 0) = []) trivial) (by kernel_rfl) lp_s_Live_3
theorem e_s_Live : ∀ d, pcall ⟨lookT tys, ctrOf C_s_Live, kindOf C_s_Live, 3, 4⟩ 0 Q_s_Live Tryz.f257 .plain (mkA P_s_Live d) = (T_s_Live d.1).run fun r => some (O_s_Live r) := fun d => by kernel_rfl
theorem fn_s_Live : Fn Tryz.prog 257 .plain F_s_Live := fn_of (cfgOk_of mixed tys_ok (show FnsOk Tryz.prog C_s_Live from trivial)) Tryz.func257 (by kernel_rfl) (by kernel_rfl) (fun cx b hp hb => all_of (by kernel_rfl : loopsOf (Tryz.f257.body.getD .skip) = [nthLoop Tryz.f257 0]) ⟨lo_s_Live_3 cx hp, trivial⟩ b hb) (R := (YI)) (T := fun (d : aden P_s_Live) => T_s_Live d.1) e_s_Live
def F_s_l14None : Fun1 := funV [(true, h_5)] (fun d => (T_s_l14None d.1).val) fun r => ([rv (false, [.bool]) r], [])
theorem fn_s_l14None : Fn Tryz.prog 267 .plain F_s_l14None := mkF [] trivial Tryz.func267 (by kernel_rfl) (by kernel_rfl) (by kernel_rfl) 0 fun d => by kernel_rfl
def F_s_l19NoChan : Fun1 := funV [(true, h_11)] (fun d => (T_s_l19NoChan d.1).val) fun r => ([rv (false, [.bool]) r], [])
theorem fn_s_l19NoChan : Fn Tryz.prog 200 .plain F_s_l19NoChan := mkF [(267, .plain, F_s_l14None)] ⟨fn_s_l14None, trivial⟩ Tryz.func200 (by kernel_rfl) (by kernel_rfl) (by kernel_rfl) 0 fun d => by kernel_rfl
def F_s_Near : Fun1 := funV [(false, [.int .i64])] (fun d => (T_s_Near d.1).val) fun r => ([rv (true, [.int .i64, .int .i64]) r], [])
theorem fn_s_Near : Fn Tryz.prog 220 .plain F_s_Near := mkF [(68, .plain, F_s_l1In)] ⟨fn_s_l1In, trivial⟩ Tryz.func220 (by kernel_rfl) (by kernel_rfl) (by kernel_rfl) 0 fun d => by kernel_rfl
def F_s_l8Bit : Fun1 := funV [(true, [.int .i64, .sl 3 [.int .i64]]), (false, [.int .i64])] (fun d => (T_s_l8Bit d.1 d.2.1).val) fun r => ([rv (false, [.bool]) r], [])
theorem fn_s_l8Bit : Fn Tryz.prog 321 .plain F_s_l8Bit := mkF [] trivial Tryz.func321 (by kernel_rfl) (by kernel_rfl) (by kernel_rfl) 0 fun d => by kernel_rfl
def P_s_WinOk : List (Bool × List Sh) := [(true, [.int .i64, .sl 3 [.int .i64]])]
def O_s_WinOk (r : (Bool × Unit)) : List RV × List RV := ([rv (false, [.bool]) r], [])
def C_s_WinOk : Fns := [(68, .plain, F_s_l1In), (321, .plain, F_s_l8Bit)]
def F_s_WinOk : Fun1 := funV P_s_WinOk (fun d => (T_s_WinOk d.1).val) O_s_WinOk
def K_s_WinOk_11 : Sk := ⟨[(1, .box 1 0), (4, .v false [(.int .i64, .nil)])], [(1, [(.int .i64, .nil), (.sl 3 [.int .i64], .ro)])], []⟩
def X_s_WinOk_11 : List (Ex × Sk) := [(.ret, ⟨[(2, .v false [(.bool, .nil)])], [], []⟩), ((.exit 2), ⟨[], [], []⟩)]
def K_s_WinOk_4 : Sk := ⟨[(1, .box 1 0), (3, .v false [(.int .i64, .nil)])], [(1, [(.int .i64, .nil), (.sl 3 [.int .i64], .ro)])], []⟩
def X_s_WinOk_4 : List (Ex × Sk) := [(.ret, ⟨[(2, .v false [(.bool, .nil)])], [], []⟩), ((.exit 0), ⟨[(1, .box 1 0)], [(1, [(.int .i64, .nil), (.sl 3 [.int .i64], .ro)])], []⟩)]
def Q_s_WinOk : Loops := fun i st => cond (Nat.beq i 4) (lam K_s_WinOk_4 5000000 X_s_WinOk_4 B_s_WinOk_4 st) <| cond (Nat.beq i 11) (lam K_s_WinOk_11 12000000 X_s_WinOk_11 B_s_WinOk_11 st) <| .fail
theorem lp_s_WinOk_4 : ∀ d, bod ⟨lookT tys, ctrOf C_s_WinOk, kindOf C_s_WinOk, 3, 4⟩ 0 Tryz.f306.ntmps Q_s_WinOk (nthLoop Tryz.f306 0) K_s_WinOk_4 5000000 X_s_WinOk_4 d = B_s_WinOk_4 d := fun d => by kernel_rfl
theorem lo_s_WinOk_4 (cx : Cx) (hp : cx.pin.length ≤ 0) : LoopOk Tryz.prog cx Tryz.f306.ntmps Q_s_WinOk (nthLoop Tryz.f306 0) := loop_of (cfgOk_of mixed tys_ok (show FnsOk Tryz.prog C_s_WinOk from ⟨fn_s_l1In, fn_s_l8Bit, trivial⟩)) hp (all_of (by kernel_rfl : loopsOf (nthLoop Tryz.f306 0) = []) trivial) (by kernel_rfl) lp_s_WinOk_4
theorem lp_s_WinOk_11 : ∀ d, bod ⟨lookT tys, ctrOf C_s_WinOk, kindOf C_s_WinOk, 3, 4⟩ 0 Tryz.f306.ntmps Q_s_WinOk (nthLoop Tryz.f306 1) K_s_WinOk_11 12000000 X_s_WinOk_11 d = B_s_WinOk_11 d := fun d => by kernel_rfl
theorem lo_s_WinOk_11 (cx : Cx) (hp : cx.pin.length ≤ 0) : LoopOk Tryz.prog cx Tryz.f306.ntmps Q_s_WinOk (nthLoop Tryz.f306 1) := loop_of (cfgOk_of mixed tys_ok (show FnsOk Tryz.prog C_s_WinOk from ⟨fn_s_l1In, fn_s_l8Bit, trivial⟩)) hp (all_of (by kernel_rfl : loopsOf (nthLoop Tryz.f306 1) = []) trivial) (by kernel_rfl) lp_s_WinOk_11
theorem e_s_WinOk : ∀ d, pcall ⟨lookT tys, ctrOf C_s_WinOk, kindOf C_s_WinOk, 3, 4⟩ 0 Q_s_WinOk Tryz.f306 .plain (mkA P_s_WinOk d) = (T_s_WinOk d.1).run fun r => some (O_s_WinOk r) := fun d => by kernel_rfl
theorem fn_s_WinOk : Fn Tryz.prog 306 .plain F_s_WinOk := fn_of (cfgOk_of mixed tys_ok (show FnsOk Tryz.prog C_s_WinOk from ⟨fn_s_l1In, fn_s_l8Bit, trivial⟩)) Tryz.func306 (by kernel_rfl) (by kernel_rfl) (fun cx b hp hb => all_of (by kernel_rfl : loopsOf (Tryz.f306.body.getD .skip) = [nthLoop Tryz.f306 0, nthLoop Tryz.f306 1]) ⟨lo_s_WinOk_4 cx hp, lo_s_WinOk_11 cx hp, trivial⟩ b hb) (R := (Bool × Unit)) (T := fun (d : aden P_s_WinOk) => T_s_WinOk d.1) e_s_WinOk
def F_s_EpOk : Fun1 := funV [(true, h_5)] (fun d => (T_s_EpOk d.1).val) fun r => ([rv (false, [.bool]) r], [])
theorem fn_s_EpOk : Fn Tryz.prog 268 .plain F_s_EpOk := mkF [(68, .plain, F_s_l1In), (306, .plain, F_s_WinOk)] ⟨fn_s_l1In, fn_s_WinOk, trivial⟩ Tryz.func268 (by kernel_rfl) (by kernel_rfl) (by kernel_rfl) 0 fun d => by kernel_rfl
def F_s_ChanOk : Fun1 := funV [(true, h_11)] (fun d => (T_s_ChanOk d.1).val) fun r => ([rv (false, [.bool]) r], [])
theorem fn_s_ChanOk : Fn Tryz.prog 201 .plain F_s_ChanOk := mkF [(68, .plain, F_s_l1In), (268, .plain, F_s_EpOk), (267, .plain, F_s_l14None)] ⟨fn_s_l1In, fn_s_EpOk, fn_s_l14None, trivial⟩ Tryz.func201 (by kernel_rfl) (by kernel_rfl) (by kernel_rfl) 0 fun d => by kernel_rfl
def F_s_l1Same : Fun1 := funV [(false, [.sl 5 [.int .u8]]), (false, [.sl 5 [.int .u8]])] (fun d => (T_s_l1Same d.1 d.2.1).val) fun r => ([rv (false, [.bool]) r], [])
theorem fn_s_l1Same : Fn Tryz.prog 156 .plain F_s_l1Same := mkF [] trivial Tryz.func156 (by kernel_rfl) (by kernel_rfl) (by kernel_rfl) 0 fun d => by kernel_rfl
def F_s_AddrOk : Fun1 := funV [(true, [.int .i64, .int .i64])] (fun d => (T_s_AddrOk d.1).val) fun r => ([rv (false, [.bool]) r], [])
theorem fn_s_AddrOk : Fn Tryz.prog 197 .plain F_s_AddrOk := mkF [(68, .plain, F_s_l1In)] ⟨fn_s_l1In, trivial⟩ Tryz.func197 (by kernel_rfl) (by kernel_rfl) (by kernel_rfl) 0 fun d => by kernel_rfl
def P_s_PathsOk : List (Bool × List Sh) := [(true, h_7)]
def O_s_PathsOk (r : (Bool × Unit)) : List RV × List RV := ([rv (false, [.bool]) r], [])
def C_s_PathsOk : Fns := [(197, .plain, F_s_AddrOk), (68, .plain, F_s_l1In)]
def F_s_PathsOk : Fun1 := funV P_s_PathsOk (fun d => (T_s_PathsOk d.1).val) O_s_PathsOk
def K_s_PathsOk_4 : Sk := ⟨[(1, .box 1 0), (3, .v false [(.int .i64, .nil)])], [(1, [(.int .i64, .nil), (.int .i64, .nil), (.sl 274 h_4, .ro)])], []⟩
def X_s_PathsOk_4 : List (Ex × Sk) := [(.ret, ⟨[(2, .v false [(.bool, .nil)])], [], []⟩), ((.exit 0), ⟨[], [], []⟩)]
def K_s_PathsOk_10 : Sk := ⟨[(1, .box 1 0), (3, .v false [(.int .i64, .nil)]), (4, .box 4 0), (5, .v false [(.int .i64, .nil)])], [(1, [(.int .i64, .nil), (.int .i64, .nil), (.sl 274 h_4, .ro)]), (4, [(.int .i64, .nil), (.int .i64, .nil), (.sl 5 [.int .u8], .ro), (.int .i64, .nil)])], []⟩
def X_s_PathsOk_10 : List (Ex × Sk) := [(.ret, ⟨[(2, .v false [(.bool, .nil)])], [], []⟩), ((.exit 2), ⟨[(1, .box 1 0), (3, .v false [(.int .i64, .nil)])], [(1, [(.int .i64, .nil), (.int .i64, .nil), (.sl 274 h_4, .ro)])], []⟩)]
def Q_s_PathsOk : Loops := fun i st => cond (Nat.beq i 10) (lam K_s_PathsOk_10 11000000 X_s_PathsOk_10 B_s_PathsOk_10 st) <| cond (Nat.beq i 4) (lam K_s_PathsOk_4 5000000 X_s_PathsOk_4 B_s_PathsOk_4 st) <| .fail
theorem lp_s_PathsOk_10 : ∀ d, bod ⟨lookT tys, ctrOf C_s_PathsOk, kindOf C_s_PathsOk, 3, 4⟩ 0 Tryz.f221.ntmps Q_s_PathsOk (nthLoop Tryz.f221 1) K_s_PathsOk_10 11000000 X_s_PathsOk_10 d = B_s_PathsOk_10 d := fun d => by kernel_rfl
theorem lo_s_PathsOk_10 (cx : Cx) (hp : cx.pin.length ≤ 0) : LoopOk Tryz.prog cx Tryz.f221.ntmps Q_s_PathsOk (nthLoop Tryz.f221 1) := loop_of (cfgOk_of mixed tys_ok (show FnsOk Tryz.prog C_s_PathsOk from ⟨fn_s_AddrOk, fn_s_l1In, trivial⟩)) hp (all_of (by kernel_rfl : loopsOf (nthLoop Tryz.f221 1) = []) trivial) (by kernel_rfl) lp_s_PathsOk_10
theorem lp_s_PathsOk_4 : ∀ d, bod ⟨lookT tys, ctrOf C_s_PathsOk, kindOf C_s_PathsOk, 3, 4⟩ 0 Tryz.f221.ntmps Q_s_PathsOk (nthLoop Tryz.f221 0) K_s_PathsOk_4 5000000 X_s_PathsOk_4 d = B_s_PathsOk_4 d := fun d => by kernel_rfl
theorem lo_s_PathsOk_4 (cx : Cx) (hp : cx.pin.length ≤ 0) : LoopOk Tryz.prog cx Tryz.f221.ntmps Q_s_PathsOk (nthLoop Tryz.f221 0) := loop_of (cfgOk_of mixed tys_ok (show FnsOk Tryz.prog C_s_PathsOk from ⟨fn_s_AddrOk, fn_s_l1In, trivial⟩)) hp (all_of (by kernel_rfl : loopsOf (nthLoop Tryz.f221 0) = [nthLoop Tryz.f221 1]) ⟨lo_s_PathsOk_10 cx hp, trivial⟩) (by kernel_rfl) lp_s_PathsOk_4
theorem e_s_PathsOk : ∀ d, pcall ⟨lookT tys, ctrOf C_s_PathsOk, kindOf C_s_PathsOk, 3, 4⟩ 0 Q_s_PathsOk Tryz.f221 .plain (mkA P_s_PathsOk d) = (T_s_PathsOk d.1).run fun r => some (O_s_PathsOk r) := fun d => by kernel_rfl
theorem fn_s_PathsOk : Fn Tryz.prog 221 .plain F_s_PathsOk := fn_of (cfgOk_of mixed tys_ok (show FnsOk Tryz.prog C_s_PathsOk from ⟨fn_s_AddrOk, fn_s_l1In, trivial⟩)) Tryz.func221 (by kernel_rfl) (by kernel_rfl) (fun cx b hp hb => all_of (by kernel_rfl : loopsOf (Tryz.f221.body.getD .skip) = [nthLoop Tryz.f221 0]) ⟨lo_s_PathsOk_4 cx hp, trivial⟩ b hb) (R := (Bool × Unit)) (T := fun (d : aden P_s_PathsOk) => T_s_PathsOk d.1) e_s_PathsOk
def F_s_SessOk : Fun1 := funV [(true, h_13)] (fun d => (T_s_SessOk d.1).val) fun r => ([rv (false, [.bool]) r], [])
theorem fn_s_SessOk : Fn Tryz.prog 121 .plain F_s_SessOk := mkF [(68, .plain, F_s_l1In), (200, .plain, F_s_l19NoChan), (220, .plain, F_s_Near), (201, .plain, F_s_ChanOk), (156, .plain, F_s_l1Same), (221, .plain, F_s_PathsOk)] ⟨fn_s_l1In, fn_s_l19NoChan, fn_s_Near, fn_s_ChanOk, fn_s_l1Same, fn_s_PathsOk, trivial⟩ Tryz.func121 (by kernel_rfl) (by kernel_rfl) (by kernel_rfl) 0 fun d => by kernel_rfl
def P_s_FindSn : List (Bool × List Sh) := [(true, [.int .i64, .sl 100 h_13]), (false, [.sl 5 [.int .u8]])]
def O_s_FindSn (r : (YI)) : List RV × List RV := ([rv (false, [.int .i64]) r], [])
def C_s_FindSn : Fns := [(156, .plain, F_s_l1Same)]
def F_s_FindSn : Fun1 := funV P_s_FindSn (fun d => (T_s_FindSn d.1 d.2.1).val) O_s_FindSn
def K_s_FindSn_2 : Sk := ⟨[(1, .v false [(.sl 5 [.int .u8], .ro)]), (2, .box 2 0), (5, .v false [(.int .i64, .nil)])], [(2, [(.int .i64, .nil), (.sl 100 h_13, .ro)])], []⟩
def X_s_FindSn_2 : List (Ex × Sk) := [(.ret, ⟨[(4, .v false [(.int .i64, .nil)])], [], []⟩), ((.exit 0), ⟨[], [], []⟩)]
def Q_s_FindSn : Loops := fun i st => cond (Nat.beq i 2) (lam K_s_FindSn_2 3000000 X_s_FindSn_2 B_s_FindSn_2 st) <| .fail
theorem lp_s_FindSn_2 : ∀ d, bod ⟨lookT tys, ctrOf C_s_FindSn, kindOf C_s_FindSn, 3, 4⟩ 0 Tryz.f258.ntmps Q_s_FindSn (nthLoop Tryz.f258 0) K_s_FindSn_2 3000000 X_s_FindSn_2 d = B_s_FindSn_2 d := fun d => by kernel_rfl
theorem lo_s_FindSn_2 (cx : Cx) (hp : cx.pin.length ≤ 0) : LoopOk Tryz.prog cx Tryz.f258.ntmps Q_s_FindSn (nthLoop Tryz.f258 0) := loop_of (cfgOk_of mixed tys_ok (show FnsOk Tryz.prog C_s_FindSn from ⟨fn_s_l1Same, trivial⟩)) hp (all_of (by kernel_rfl : loopsOf (nthLoop Tryz.f258 0) = []) trivial) (by kernel_rfl) lp_s_FindSn_2
theorem e_s_FindSn : ∀ d, pcall ⟨lookT tys, ctrOf C_s_FindSn, kindOf C_s_FindSn, 3, 4⟩ 0 Q_s_FindSn Tryz.f258 .plain (mkA P_s_FindSn d) = (T_s_FindSn d.1 d.2.1).run fun r => some (O_s_FindSn r) := fun d => by kernel_rfl
theorem fn_s_FindSn : Fn Tryz.prog 258 .plain F_s_FindSn := fn_of (cfgOk_of mixed tys_ok (show FnsOk Tryz.prog C_s_FindSn from ⟨fn_s_l1Same, trivial⟩)) Tryz.func258 (by kernel_rfl) (by kernel_rfl) (fun cx b hp hb => all_of (by kernel_rfl : loopsOf (Tryz.f258.body.getD .skip) = [nthLoop Tryz.f258 0]) ⟨lo_s_FindSn_2 cx hp, trivial⟩ b hb) (R := (YI)) (T := fun (d : aden P_s_FindSn) => T_s_FindSn d.1 d.2.1) e_s_FindSn
def P_s_TabOk : List (Bool × List Sh) := [(true, [.int .i64, .sl 100 h_13])]
def O_s_TabOk (r : (Bool × Unit)) : List RV × List RV := ([rv (false, [.bool]) r], [])
def C_s_TabOk : Fns := [(68, .plain, F_s_l1In), (257, .plain, F_s_Live), (121, .plain, F_s_SessOk), (258, .plain, F_s_FindSn)]
def F_s_TabOk : Fun1 := funV P_s_TabOk (fun d => (T_s_TabOk d.1).val) O_s_TabOk
def K_s_TabOk_4 : Sk := ⟨[(1, .box 1 0), (3, .v false [(.int .i64, .nil)])], [(1, [(.int .i64, .nil), (.sl 100 h_13, .ro)])], []⟩
def X_s_TabOk_4 : List (Ex × Sk) := [(.ret, ⟨[(2, .v false [(.bool, .nil)])], [], []⟩), ((.exit 0), ⟨[], [], []⟩)]
def Q_s_TabOk : Loops := fun i st => cond (Nat.beq i 4) (lam K_s_TabOk_4 5000000 X_s_TabOk_4 B_s_TabOk_4 st) <| .fail
theorem lp_s_TabOk_4 : ∀ d, bod ⟨lookT tys, ctrOf C_s_TabOk, kindOf C_s_TabOk, 3, 4⟩ 0 Tryz.f178.ntmps Q_s_TabOk (nthLoop Tryz.f178 0) K_s_TabOk_4 5000000 X_s_TabOk_4 d = B_s_TabOk_4 d := fun d => by kernel_rfl
theorem lo_s_TabOk_4 (cx : Cx) (hp : cx.pin.length ≤ 0) : LoopOk Tryz.prog cx Tryz.f178.ntmps Q_s_TabOk (nthLoop Tryz.f178 0) := loop_of (cfgOk_of mixed tys_ok (show FnsOk Tryz.prog C_s_TabOk from ⟨fn_s_l1In, fn_s_Live, fn_s_SessOk, fn_s_FindSn, trivial⟩)) hp (all_of (by kernel_rfl : loopsOf (nthLoop Tryz.f178 0) = []) trivial) (by kernel_rfl) lp_s_TabOk_4
theorem e_s_TabOk : ∀ d, pcall ⟨lookT tys, ctrOf C_s_TabOk, kindOf C_s_TabOk, 3, 4⟩ 0 Q_s_TabOk Tryz.f178 .plain (mkA P_s_TabOk d) = (T_s_TabOk d.1).run fun r => some (O_s_TabOk r) := fun d => by kernel_rfl
theorem fn_s_TabOk : Fn Tryz.prog 178 .plain F_s_TabOk := fn_of (cfgOk_of mixed tys_ok (show FnsOk Tryz.prog C_s_TabOk from ⟨fn_s_l1In, fn_s_Live, fn_s_SessOk, fn_s_FindSn, trivial⟩)) Tryz.func178 (by kernel_rfl) (by kernel_rfl) (fun cx b hp hb => all_of (by kernel_rfl : loopsOf (Tryz.f178.body.getD .skip) = [nthLoop Tryz.f178 0]) ⟨lo_s_TabOk_4 cx hp, trivial⟩ b hb) (R := (Bool × Unit)) (T := fun (d : aden P_s_TabOk) => T_s_TabOk d.1) e_s_TabOk
def P_s_CreditsOk : List (Bool × List Sh) := [(false, [.sl 218 h_2])]
def O_s_CreditsOk (r : (Bool × Unit)) : List RV × List RV := ([rv (false, [.bool]) r], [])
def C_s_CreditsOk : Fns := [(197, .plain, F_s_AddrOk), (68, .plain, F_s_l1In)]
def F_s_CreditsOk : Fun1 := funV P_s_CreditsOk (fun d => (T_s_CreditsOk d.1).val) O_s_CreditsOk
def K_s_CreditsOk_4 : Sk := ⟨[(0, .v false [(.sl 218 h_2, .ro)]), (3, .v false [(.int .i64, .nil)])], [], []⟩
def X_s_CreditsOk_4 : List (Ex × Sk) := [(.ret, ⟨[(2, .v false [(.bool, .nil)])], [], []⟩), ((.exit 0), ⟨[], [], []⟩)]
def K_s_CreditsOk_9 : Sk := ⟨[(0, .v false [(.sl 218 h_2, .ro)]), (3, .v false [(.int .i64, .nil)]), (4, .v false [(.int .i64, .nil)])], [], []⟩
def X_s_CreditsOk_9 : List (Ex × Sk) := [(.ret, ⟨[(2, .v false [(.bool, .nil)])], [], []⟩), ((.exit 2), ⟨[(0, .v false [(.sl 218 h_2, .ro)]), (3, .v false [(.int .i64, .nil)])], [], []⟩)]
def Q_s_CreditsOk : Loops := fun i st => cond (Nat.beq i 9) (lam K_s_CreditsOk_9 10000000 X_s_CreditsOk_9 B_s_CreditsOk_9 st) <| cond (Nat.beq i 4) (lam K_s_CreditsOk_4 5000000 X_s_CreditsOk_4 B_s_CreditsOk_4 st) <| .fail
theorem lp_s_CreditsOk_9 : ∀ d, bod ⟨lookT tys, ctrOf C_s_CreditsOk, kindOf C_s_CreditsOk, 3, 4⟩ 0 Tryz.f179.ntmps Q_s_CreditsOk (nthLoop Tryz.f179 1) K_s_CreditsOk_9 10000000 X_s_CreditsOk_9 d = B_s_CreditsOk_9 d := fun d => by kernel_rfl
theorem lo_s_CreditsOk_9 (cx : Cx) (hp : cx.pin.length ≤ 0) : LoopOk Tryz.prog cx Tryz.f179.ntmps Q_s_CreditsOk (nthLoop Tryz.f179 1) := loop_of (cfgOk_of mixed tys_ok (show FnsOk Tryz.prog C_s_CreditsOk from ⟨fn_s_AddrOk, fn_s_l1In, trivial⟩)) hp (all_of (by kernel_rfl : loopsOf (nthLoop Tryz.f179 1) = []) trivial) (by kernel_rfl) lp_s_CreditsOk_9
theorem lp_s_CreditsOk_4 : ∀ d, bod ⟨lookT tys, ctrOf C_s_CreditsOk, kindOf C_s_CreditsOk, 3, 4⟩ 0 Tryz.f179.ntmps Q_s_CreditsOk (nthLoop Tryz.f179 0) K_s_CreditsOk_4 5000000 X_s_CreditsOk_4 d = B_s_CreditsOk_4 d := fun d => by kernel_rfl
theorem lo_s_CreditsOk_4 (cx : Cx) (hp : cx.pin.length ≤ 0) : LoopOk Tryz.prog cx Tryz.f179.ntmps Q_s_CreditsOk (nthLoop Tryz.f179 0) := loop_of (cfgOk_of mixed tys_ok (show FnsOk Tryz.prog C_s_CreditsOk from ⟨fn_s_AddrOk, fn_s_l1In, trivial⟩)) hp (all_of (by kernel_rfl : loopsOf (nthLoop Tryz.f179 0) = [nthLoop Tryz.f179 1]) ⟨lo_s_CreditsOk_9 cx hp, trivial⟩) (by kernel_rfl) lp_s_CreditsOk_4
theorem e_s_CreditsOk : ∀ d, pcall ⟨lookT tys, ctrOf C_s_CreditsOk, kindOf C_s_CreditsOk, 3, 4⟩ 0 Q_s_CreditsOk Tryz.f179 .plain (mkA P_s_CreditsOk d) = (T_s_CreditsOk d.1).run fun r => some (O_s_CreditsOk r) := fun d => by kernel_rfl
theorem fn_s_CreditsOk : Fn Tryz.prog 179 .plain F_s_CreditsOk := fn_of (cfgOk_of mixed tys_ok (show FnsOk Tryz.prog C_s_CreditsOk from ⟨fn_s_AddrOk, fn_s_l1In, trivial⟩)) Tryz.func179 (by kernel_rfl) (by kernel_rfl) (fun cx b hp hb => all_of (by kernel_rfl : loopsOf (Tryz.f179.body.getD .skip) = [nthLoop Tryz.f179 0]) ⟨lo_s_CreditsOk_4 cx hp, trivial⟩ b hb) (R := (Bool × Unit)) (T := fun (d : aden P_s_CreditsOk) => T_s_CreditsOk d.1) e_s_CreditsOk
def F_s_PskOk : Fun1 := funV [(false, [.sl 5 [.int .u8]])] (fun d => (T_s_PskOk d.1).val) fun r => ([rv (false, [.bool]) r], [])
theorem fn_s_PskOk : Fn Tryz.prog 180 .plain F_s_PskOk := mkF [(68, .plain, F_s_l1In)] ⟨fn_s_l1In, trivial⟩ Tryz.func180 (by kernel_rfl) (by kernel_rfl) (by kernel_rfl) 0 fun d => by kernel_rfl
def P_s_ServerOk : List (Bool × List Sh) := [(true, h_15)]
def O_s_ServerOk (r : (Bool × Unit)) : List RV × List RV := ([rv (false, [.bool]) r], [])
def C_s_ServerOk : Fns := [(68, .plain, F_s_l1In), (176, .plain, F_s_JarOk), (177, .plain, F_s_DiceOk), (178, .plain, F_s_TabOk), (179, .plain, F_s_CreditsOk), (180, .plain, F_s_PskOk)]
def F_s_ServerOk : Fun1 := funV P_s_ServerOk (fun d => (T_s_ServerOk d.1).val) O_s_ServerOk
def K_s_ServerOk_9 : Sk := ⟨[(1, .box 1 0), (4, .v false [(.int .i64, .nil)])], [(1, [(.sl 23 [.sl 5 [.int .u8]], .ro), (.sl 5 [.int .u8], .ro), (.sl 5 [.int .u8], .ro), (.int .i64, .nil), (.int .i64, .nil), (.sl 100 h_13, .ro), (.sl 218 h_2, .ro)])], []⟩
def X_s_ServerOk_9 : List (Ex × Sk) := [(.ret, ⟨[(2, .v false [(.bool, .nil)])], [], []⟩), ((.exit 2), ⟨[], [], []⟩)]
def K_s_ServerOk_4 : Sk := ⟨[(1, .box 1 0), (3, .v false [(.int .i64, .nil)])], [(1, [(.sl 23 [.sl 5 [.int .u8]], .ro), (.sl 5 [.int .u8], .ro), (.sl 5 [.int .u8], .ro), (.int .i64, .nil), (.int .i64, .nil), (.sl 100 h_13, .ro), (.sl 218 h_2, .ro)])], []⟩
def X_s_ServerOk_4 : List (Ex × Sk) := [(.ret, ⟨[(2, .v false [(.bool, .nil)])], [], []⟩), ((.exit 0), ⟨[(1, .box 1 0)], [(1, [(.sl 23 [.sl 5 [.int .u8]], .ro), (.sl 5 [.int .u8], .ro), (.sl 5 [.int .u8], .ro), (.int .i64, .nil), (.int .i64, .nil), (.sl 100 h_13, .ro), (.sl 218 h_2, .ro)])], []⟩)]
def Q_s_ServerOk : Loops := fun i st => cond (Nat.beq i 4) (lam K_s_ServerOk_4 5000000 X_s_ServerOk_4 B_s_ServerOk_4 st) <| cond (Nat.beq i 9) (lam K_s_ServerOk_9 10000000 X_s_ServerOk_9 B_s_ServerOk_9 st) <| .fail
theorem lp_s_ServerOk_4 : ∀ d, bod ⟨lookT tys, ctrOf C_s_ServerOk, kindOf C_s_ServerOk, 3, 4⟩ 0 Tryz.f67.ntmps Q_s_ServerOk (nthLoop Tryz.f67 0) K_s_ServerOk_4 5000000 X_s_ServerOk_4 d = B_s_ServerOk_4 d := fun d => by kernel_rfl
theorem lo_s_ServerOk_4 (cx : Cx) (hp : cx.pin.length ≤ 0) : LoopOk Tryz.prog cx Tryz.f67.ntmps Q_s_ServerOk (nthLoop Tryz.f67 0) := loop_of (cfgOk_of mixed tys_ok (show FnsOk Tryz.prog C_s_ServerOk from ⟨fn_s_l1In, fn_s_JarOk, fn_s_DiceOk, fn_s_TabOk, fn_s_CreditsOk, fn_s_PskOk, trivial⟩)) hp (all_of (by kernel_rfl : loopsOf (nthLoop Tryz.f67 0) = []) trivial) (by kernel_rfl) lp_s_ServerOk_4
theorem lp_s_ServerOk_9 : ∀ d, bod ⟨lookT tys, ctrOf C_s_ServerOk, kindOf C_s_ServerOk, 3, 4⟩ 0 Tryz.f67.ntmps Q_s_ServerOk (nthLoop Tryz.f67 1) K_s_ServerOk_9 10000000 X_s_ServerOk_9 d = B_s_ServerOk_9 d := fun d => by kernel_rfl
theorem lo_s_ServerOk_9 (cx : Cx) (hp : cx.pin.length ≤ 0) : LoopOk Tryz.prog cx Tryz.f67.ntmps Q_s_ServerOk (nthLoop Tryz.f67 1) := loop_of (cfgOk_of mixed tys_ok (show FnsOk Tryz.prog C_s_ServerOk from ⟨fn_s_l1In, fn_s_JarOk, fn_s_DiceOk, fn_s_TabOk, fn_s_CreditsOk, fn_s_PskOk, trivial⟩)) hp (all_of (by kernel_rfl : loopsOf (nthLoop Tryz.f67 1) = []) trivial) (by kernel_rfl) lp_s_ServerOk_9
theorem e_s_ServerOk : ∀ d, pcall ⟨lookT tys, ctrOf C_s_ServerOk, kindOf C_s_ServerOk, 3, 4⟩ 0 Q_s_ServerOk Tryz.f67 .plain (mkA P_s_ServerOk d) = (T_s_ServerOk d.1).run fun r => some (O_s_ServerOk r) := fun d => by kernel_rfl
theorem fn_s_ServerOk : Fn Tryz.prog 67 .plain F_s_ServerOk := fn_of (cfgOk_of mixed tys_ok (show FnsOk Tryz.prog C_s_ServerOk from ⟨fn_s_l1In, fn_s_JarOk, fn_s_DiceOk, fn_s_TabOk, fn_s_CreditsOk, fn_s_PskOk, trivial⟩)) Tryz.func67 (by kernel_rfl) (by kernel_rfl) (fun cx b hp hb => all_of (by kernel_rfl : loopsOf (Tryz.f67.body.getD .skip) = [nthLoop Tryz.f67 0, nthLoop Tryz.f67 1]) ⟨lo_s_ServerOk_4 cx hp, lo_s_ServerOk_9 cx hp, trivial⟩ b hb) (R := (Bool × Unit)) (T := fun (d : aden P_s_ServerOk) => T_s_ServerOk d.1) e_s_ServerOk
def P_s_PutN : List (Bool × List Sh) := [(false, [.sl 5 [.int .u8]]), (false, [.int .i64]), (false, [.int .i64])]
def O_s_PutN (r : (YBs)) : List RV × List RV := ([rv (false, [.sl 5 [.int .u8]]) r], [])
def C_s_PutN : Fns := []
def F_s_PutN : Fun1 := funV P_s_PutN (fun d => (T_s_PutN d.1 d.2.1 d.2.2.1).val) O_s_PutN
def K_s_PutN_5 : Sk := ⟨[(1, .v false [(.int .i64, .nil)]), (7, .v false [(.sl 5 [.int .u8], (.own 6000000))]), (8, .v false [(.int .i64, .nil)])], [], [6000000]⟩
def X_s_PutN_5 : List (Ex × Sk) := [((.exit 0), ⟨[(7, .v false [(.sl 5 [.int .u8], (.own 6000000))])], [], [6000000]⟩)]
def Q_s_PutN : Loops := fun i st => cond (Nat.beq i 5) (lam K_s_PutN_5 6000000 X_s_PutN_5 B_s_PutN_5 st) <| .fail
theorem lp_s_PutN_5 : ∀ d, bod ⟨lookT tys, ctrOf C_s_PutN, kindOf C_s_PutN, 3, 4⟩ 0 Tryz.f245.ntmps Q_s_PutN (nthLoop Tryz.f245 0) K_s_PutN_5 6000000 X_s_PutN_5 d = B_s_PutN_5 d := fun d => by kernel_rfl
theorem lo_s_PutN_5 (cx : Cx) (hp : cx.pin.length ≤ 0) : LoopOk Tryz.prog cx Tryz.f245.ntmps Q_s_PutN (nthLoop Tryz.f245 0) := loop_of (cfgOk_of mixed tys_ok (show FnsOk Tryz.prog C_s_PutN from trivial)) hp (all_of (by kernel_rfl : loopsOf (nthLoop Tryz.f245 0) = []) trivial) (by kernel_rfl) lp_s_PutN_5
theorem e_s_PutN : ∀ d, pcall ⟨lookT tys, ctrOf C_s_PutN, kindOf C_s_PutN, 3, 4⟩ 0 Q_s_PutN Tryz.f245 .plain (mkA P_s_PutN d) = (T_s_PutN d.1 d.2.1 d.2.2.1).run fun r => some (O_s_PutN r) := fun d => by kernel_rfl
theorem fn_s_PutN : Fn Tryz.prog 245 .plain F_s_PutN := fn_of (cfgOk_of mixed tys_ok (show FnsOk Tryz.prog C_s_PutN from trivial)) Tryz.func245 (by kernel_rfl) (by kernel_rfl) (fun cx b hp hb => all_of (by kernel_rfl : loopsOf (Tryz.f245.body.getD .skip) = [nthLoop Tryz.f245 0]) ⟨lo_s_PutN_5 cx hp, trivial⟩ b hb) (R := (YBs)) (T := fun (d : aden P_s_PutN) => T_s_PutN d.1 d.2.1 d.2.2.1) e_s_PutN
def F_s_HeadOf : Fun1 := funV [(false, [.int .i64]), (false, [.sl 5 [.int .u8]]), (false, [.int .i64]), (false, [.int .i64])] (fun d => (T_s_HeadOf d.1 d.2.1 d.2.2.1 d.2.2.2.1).val) fun r => ([rv (false, [.sl 5 [.int .u8]]) r], [])
theorem fn_s_HeadOf : Fn Tryz.prog 247 .plain F_s_HeadOf := mkF [(68, .plain, F_s_l1In), (245, .plain, F_s_PutN)] ⟨fn_s_l1In, fn_s_PutN, trivial⟩ Tryz.func247 (by kernel_rfl) (by kernel_rfl) (by kernel_rfl) 0 fun d => by kernel_rfl
def F_s_Sealed : Fun1 := funV [(false, [.int .i64])] (fun d => (T_s_Sealed d.1).val) fun r => ([rv (false, [.bool]) r], [])
theorem fn_s_Sealed : Fn Tryz.prog 163 .plain F_s_Sealed := mkF [(68, .plain, F_s_l1In)] ⟨fn_s_l1In, trivial⟩ Tryz.func163 (by kernel_rfl) (by kernel_rfl) (by kernel_rfl) 0 fun d => by kernel_rfl
def F_s_l7Body : Fun1 := funV [(false, [.int .i64]), (false, [.int .i64])] (fun d => (T_s_l7Body d.1 d.2.1).val) fun r => ([rv (false, [.bool]) r], [])
theorem fn_s_l7Body : Fn Tryz.prog 238 .plain F_s_l7Body := mkF [] trivial Tryz.func238 (by kernel_rfl) (by kernel_rfl) (by kernel_rfl) 0 fun d => by kernel_rfl
def P_s_Pad : List (Bool × List Sh) := [(false, [.int .i64])]
def O_s_Pad (r : (YBs)) : List RV × List RV := ([rv (false, [.sl 5 [.int .u8]]) r], [])
def C_s_Pad : Fns := [(245, .plain, F_s_PutN)]
def F_s_Pad : Fun1 := funV P_s_Pad (fun d => (T_s_Pad d.1).val) O_s_Pad
def K_s_Pad_4 : Sk := ⟨[(0, .v false [(.int .i64, .nil)]), (3, .v false [(.sl 5 [.int .u8], (.own 5000000))])], [], [5000000]⟩
def X_s_Pad_4 : List (Ex × Sk) := [((.exit 0), ⟨[(0, .v false [(.int .i64, .nil)]), (3, .v false [(.sl 5 [.int .u8], (.own 5000000))])], [], [5000000]⟩)]
def Q_s_Pad : Loops := fun i st => cond (Nat.beq i 4) (lam K_s_Pad_4 5000000 X_s_Pad_4 B_s_Pad_4 st) <| .fail
theorem lp_s_Pad_4 : ∀ d, bod ⟨lookT tys, ctrOf C_s_Pad, kindOf C_s_Pad, 3, 4⟩ 0 Tryz.f330.ntmps Q_s_Pad (nthLoop Tryz.f330 0) K_s_Pad_4 5000000 X_s_Pad_4 d = B_s_Pad_4 d := fun d => by kernel_rfl
theorem lo_s_Pad_4 (cx : Cx) (hp : cx.pin.length ≤ 0) : LoopOk Tryz.prog cx Tryz.f330.ntmps Q_s_Pad (nthLoop Tryz.f330 0) := loop_of (cfgOk_of mixed tys_ok (show FnsOk Tryz.prog C_s_Pad from ⟨fn_s_PutN, trivial⟩)) hp (all_of (by kernel_rfl : loopsOf (nthLoop Tryz.f330 0) = []) trivial) (by kernel_rfl) lp_s_Pad_4
theorem e_s_Pad : ∀ d, pcall ⟨lookT tys, ctrOf C_s_Pad, kindOf C_s_Pad, 3, 4⟩ 0 Q_s_Pad Tryz.f330 .plain (mkA P_s_Pad d) = (T_s_Pad d.1).run fun r => some (O_s_Pad r) := fun d => by kernel_rfl
theorem fn_s_Pad : Fn Tryz.prog 330 .plain F_s_Pad := fn_of (cfgOk_of mixed tys_ok (show FnsOk Tryz.prog C_s_Pad from ⟨fn_s_PutN, trivial⟩)) Tryz.func330 (by kernel_rfl) (by kernel_rfl) (fun cx b hp hb => all_of (by kernel_rfl : loopsOf (Tryz.f330.body.getD .skip) = [nthLoop Tryz.f330 0]) ⟨lo_s_Pad_4 cx hp, trivial⟩ b hb) (R := (YBs)) (T := fun (d : aden P_s_Pad) => T_s_Pad d.1) e_s_Pad
def F_s_Start : Fun1 := funV [] (fun d => (T_s_Start ).val) fun r => ([rv (false, [.sl 3 [.int .i64]]) r], [])
theorem fn_s_Start : Fn Tryz.prog 331 .plain F_s_Start := mkF [] trivial Tryz.func331 (by kernel_rfl) (by kernel_rfl) (by kernel_rfl) 0 fun d => by kernel_rfl
def P_s_l2Words : List (Bool × List Sh) := [(false, [.sl 3 [.int .i64]])]
def O_s_l2Words (r : (Bool × Unit)) : List RV × List RV := ([rv (false, [.bool]) r], [])
def C_s_l2Words : Fns := [(68, .plain, F_s_l1In)]
def F_s_l2Words : Fun1 := funV P_s_l2Words (fun d => (T_s_l2Words d.1).val) O_s_l2Words
def K_s_l2Words_2 : Sk := ⟨[(0, .v false [(.sl 3 [.int .i64], .ro)]), (3, .v false [(.int .i64, .nil)])], [], []⟩
def X_s_l2Words_2 : List (Ex × Sk) := [(.ret, ⟨[(2, .v false [(.bool, .nil)])], [], []⟩), ((.exit 0), ⟨[(0, .v false [(.sl 3 [.int .i64], .ro)])], [], []⟩)]
def Q_s_l2Words : Loops := fun i st => cond (Nat.beq i 2) (lam K_s_l2Words_2 3000000 X_s_l2Words_2 B_s_l2Words_2 st) <| .fail
theorem lp_s_l2Words_2 : ∀ d, bod ⟨lookT tys, ctrOf C_s_l2Words, kindOf C_s_l2Words, 3, 4⟩ 0 Tryz.f342.ntmps Q_s_l2Words (nthLoop Tryz.f342 0) K_s_l2Words_2 3000000 X_s_l2Words_2 d = B_s_l2Words_2 d := fun d => by kernel_rfl
theorem lo_s_l2Words_2 (cx : Cx) (hp : cx.pin.length ≤ 0) : LoopOk Tryz.prog cx Tryz.f342.ntmps Q_s_l2Words (nthLoop Tryz.f342 0) := loop_of (cfgOk_of mixed tys_ok (show FnsOk Tryz.prog C_s_l2Words from ⟨fn_s_l1In, trivial⟩)) hp (all_of (by kernel_rfl : loopsOf (nthLoop Tryz.f342 0) = []) trivial) (by kernel_rfl) lp_s_l2Words_2
theorem e_s_l2Words : ∀ d, pcall ⟨lookT tys, ctrOf C_s_l2Words, kindOf C_s_l2Words, 3, 4⟩ 0 Q_s_l2Words Tryz.f342 .plain (mkA P_s_l2Words d) = (T_s_l2Words d.1).run fun r => some (O_s_l2Words r) := fun d => by kernel_rfl
theorem fn_s_l2Words : Fn Tryz.prog 342 .plain F_s_l2Words := fn_of (cfgOk_of mixed tys_ok (show FnsOk Tryz.prog C_s_l2Words from ⟨fn_s_l1In, trivial⟩)) Tryz.func342 (by kernel_rfl) (by kernel_rfl) (fun cx b hp hb => all_of (by kernel_rfl : loopsOf (Tryz.f342.body.getD .skip) = [nthLoop Tryz.f342 0]) ⟨lo_s_l2Words_2 cx hp, trivial⟩ b hb) (R := (Bool × Unit)) (T := fun (d : aden P_s_l2Words) => T_s_l2Words d.1) e_s_l2Words
def F_s_l2K : Fun1 := funV [] (fun d => (T_s_l2K ).val) fun r => ([rv (false, [.sl 3 [.int .i64]]) r], [])
theorem fn_s_l2K : Fn Tryz.prog 343 .plain F_s_l2K := mkF [] trivial Tryz.func343 (by kernel_rfl) (by kernel_rfl) (by kernel_rfl) 0 fun d => by kernel_rfl
def P_s_GetN : List (Bool × List Sh) := [(false, [.sl 5 [.int .u8]]), (false, [.int .i64]), (false, [.int .i64])]
def O_s_GetN (r : (YI) × (YI) × (Bool × Unit)) : List RV × List RV := ([rv (false, [.int .i64]) r.1, rv (false, [.int .i64]) r.2.1, rv (false, [.bool]) r.2.2], [])
def C_s_GetN : Fns := []
def F_s_GetN : Fun1 := funV P_s_GetN (fun d => (T_s_GetN d.1 d.2.1 d.2.2.1).val) O_s_GetN
def K_s_GetN_5 : Sk := ⟨[(0, .v false [(.sl 5 [.int .u8], .ro)]), (1, .v false [(.int .i64, .nil)]), (2, .v false [(.int .i64, .nil)]), (9, .v false [(.int .i64, .nil)]), (10, .v false [(.int .i64, .nil)])], [], []⟩
def X_s_GetN_5 : List (Ex × Sk) := [((.exit 0), ⟨[(1, .v false [(.int .i64, .nil)]), (2, .v false [(.int .i64, .nil)]), (9, .v false [(.int .i64, .nil)])], [], []⟩)]
def Q_s_GetN : Loops := fun i st => cond (Nat.beq i 5) (lam K_s_GetN_5 6000000 X_s_GetN_5 B_s_GetN_5 st) <| .fail
theorem lp_s_GetN_5 : ∀ d, bod ⟨lookT tys, ctrOf C_s_GetN, kindOf C_s_GetN, 3, 4⟩ 0 Tryz.f351.ntmps Q_s_GetN (nthLoop Tryz.f351 0) K_s_GetN_5 6000000 X_s_GetN_5 d = B_s_GetN_5 d := fun d => by kernel_rfl
theorem lo_s_GetN_5 (cx : Cx) (hp : cx.pin.length ≤ 0) : LoopOk Tryz.prog cx Tryz.f351.ntmps Q_s_GetN (nthLoop Tryz.f351 0) := loop_of (cfgOk_of mixed tys_ok (show FnsOk Tryz.prog C_s_GetN from trivial)) hp (all_of (by kernel_rfl : loopsOf (nthLoop Tryz.f351 0) = []) trivial) (by kernel_rfl) lp_s_GetN_5
theorem e_s_GetN : ∀ d, pcall ⟨lookT tys, ctrOf C_s_GetN, kindOf C_s_GetN, 3, 4⟩ 0 Q_s_GetN Tryz.f351 .plain (mkA P_s_GetN d) = (T_s_GetN d.1 d.2.1 d.2.2.1).run fun r => some (O_s_GetN r) := fun d => by kernel_rfl
theorem fn_s_GetN : Fn Tryz.prog 351 .plain F_s_GetN := fn_of (cfgOk_of mixed tys_ok (show FnsOk Tryz.prog C_s_GetN from trivial)) Tryz.func351 (by kernel_rfl) (by kernel_rfl) (fun cx b hp hb => all_of (by kernel_rfl : loopsOf (Tryz.f351.body.getD .skip) = [nthLoop Tryz.f351 0]) ⟨lo_s_GetN_5 cx hp, trivial⟩ b hb) (R := (YI) × (YI) × (Bool × Unit)) (T := fun (d : aden P_s_GetN) => T_s_GetN d.1 d.2.1 d.2.2.1) e_s_GetN
def F_s_Rot : Fun1 := funV [(false, [.int .i64]), (false, [.int .i64])] (fun d => (T_s_Rot d.1 d.2.1).val) fun r => ([rv (false, [.int .i64]) r], [])
theorem fn_s_Rot : Fn Tryz.prog 345 .plain F_s_Rot := mkF [] trivial Tryz.func345 (by kernel_rfl) (by kernel_rfl) (by kernel_rfl) 0 fun d => by kernel_rfl
def P_s_Schedule : List (Bool × List Sh) := [(false, [.sl 5 [.int .u8]])]
def O_s_Schedule (r : ((List YI) × Unit)) : List RV × List RV := ([rv (false, [.sl 3 [.int .i64]]) r], [])
def C_s_Schedule : Fns := [(351, .plain, F_s_GetN), (345, .plain, F_s_Rot)]
def F_s_Schedule : Fun1 := funV P_s_Schedule (fun d => (T_s_Schedule d.1).val) O_s_Schedule
def K_s_Schedule_10 : Sk := ⟨[(3, .v false [(.sl 3 [.int .i64], (.own 11000000))]), (8, .v false [(.int .i64, .nil)])], [], [11000000]⟩
def X_s_Schedule_10 : List (Ex × Sk) := [((.exit 2), ⟨[(3, .v false [(.sl 3 [.int .i64], (.own 11000000))])], [], [11000000]⟩)]
def K_s_Schedule_5 : Sk := ⟨[(0, .v false [(.sl 5 [.int .u8], .ro)]), (3, .v false [(.sl 3 [.int .i64], (.own 6000000))]), (4, .v false [(.int .i64, .nil)])], [], [6000000]⟩
def X_s_Schedule_5 : List (Ex × Sk) := [((.exit 0), ⟨[(3, .v false [(.sl 3 [.int .i64], (.own 6000000))])], [], [6000000]⟩)]
def Q_s_Schedule : Loops := fun i st => cond (Nat.beq i 5) (lam K_s_Schedule_5 6000000 X_s_Schedule_5 B_s_Schedule_5 st) <| cond (Nat.beq i 10) (lam K_s_Schedule_10 11000000 X_s_Schedule_10 B_s_Schedule_10 st) <| .fail
theorem lp_s_Schedule_5 : ∀ d, bod ⟨lookT tys, ctrOf C_s_Schedule, kindOf C_s_Schedule, 3, 4⟩ 0 Tryz.f344.ntmps Q_s_Schedule (nthLoop Tryz.f344 0) K_s_Schedule_5 6000000 X_s_Schedule_5 d = B_s_Schedule_5 d := fun d => by kernel_rfl
theorem lo_s_Schedule_5 (cx : Cx) (hp : cx.pin.length ≤ 0) : LoopOk Tryz.prog cx Tryz.f344.ntmps Q_s_Schedule (nthLoop Tryz.f344 0) := loop_of (cfgOk_of mixed tys_ok (show FnsOk Tryz.prog C_s_Schedule from ⟨fn_s_GetN, fn_s_Rot, trivial⟩)) hp (all_of (by kernel_rfl : loopsOf (nthLoop Tryz.f344 0) = []) trivial) (by kernel_rfl) lp_s_Schedule_5
theorem lp_s_Schedule_10 : ∀ d, bod ⟨lookT tys, ctrOf C_s_Schedule, kindOf C_s_Schedule, 3, 4⟩ 0 Tryz.f344.ntmps Q_s_Schedule (nthLoop Tryz.f344 1) K_s_Schedule_10 11000000 X_s_Schedule_10 d = B_s_Schedule_10 d := fun d => by kernel_rfl
theorem lo_s_Schedule_10 (cx : Cx) (hp : cx.pin.length ≤ 0) : LoopOk Tryz.prog cx Tryz.f344.ntmps Q_s_Schedule (nthLoop Tryz.f344 1) := loop_of (cfgOk_of mixed tys_ok (show FnsOk Tryz.prog C_s_Schedule from ⟨fn_s_GetN, fn_s_Rot, trivial⟩)) hp (all_of (by kernel_rfl : loopsOf (nthLoop Tryz.f344 1) = []) trivial) (by kernel_rfl) lp_s_Schedule_10
theorem e_s_Schedule : ∀ d, pcall ⟨lookT tys, ctrOf C_s_Schedule, kindOf C_s_Schedule, 3, 4⟩ 0 Q_s_Schedule Tryz.f344 .plain (mkA P_s_Schedule d) = (T_s_Schedule d.1).run fun r => some (O_s_Schedule r) := fun d => by kernel_rfl
theorem fn_s_Schedule : Fn Tryz.prog 344 .plain F_s_Schedule := fn_of (cfgOk_of mixed tys_ok (show FnsOk Tryz.prog C_s_Schedule from ⟨fn_s_GetN, fn_s_Rot, trivial⟩)) Tryz.func344 (by kernel_rfl) (by kernel_rfl) (fun cx b hp hb => all_of (by kernel_rfl : loopsOf (Tryz.f344.body.getD .skip) = [nthLoop Tryz.f344 0, nthLoop Tryz.f344 1]) ⟨lo_s_Schedule_5 cx hp, lo_s_Schedule_10 cx hp, trivial⟩ b hb) (R := ((List YI) × Unit)) (T := fun (d : aden P_s_Schedule) => T_s_Schedule d.1) e_s_Schedule
def P_s_Compress : List (Bool × List Sh) := [(false, [.sl 3 [.int .i64]]), (false, [.sl 5 [.int .u8]])]
def O_s_Compress (r : ((List YI) × Unit)) : List RV × List RV := ([rv (false, [.sl 3 [.int .i64]]) r], [])
def C_s_Compress : Fns := [(342, .plain, F_s_l2Words), (343, .plain, F_s_l2K), (344, .plain, F_s_Schedule), (345, .plain, F_s_Rot)]
def F_s_Compress : Fun1 := funV P_s_Compress (fun d => (T_s_Compress d.1 d.2.1).val) O_s_Compress
def K_s_Compress_22 : Sk := ⟨[(0, .v false [(.sl 3 [.int .i64], .ro)]), (5, .v false [(.sl 3 [.int .i64], (.own 23000000))]), (19, .v false [(.sl 3 [.int .i64], (.own 23000001))]), (20, .v false [(.int .i64, .nil)])], [], [23000000, 23000001]⟩
def X_s_Compress_22 : List (Ex × Sk) := [((.exit 2), ⟨[(5, .v false [(.sl 3 [.int .i64], (.own 23000000))])], [], [23000000]⟩)]
def K_s_Compress_8 : Sk := ⟨[(0, .v false [(.sl 3 [.int .i64], .ro)]), (5, .v false [(.sl 3 [.int .i64], (.own 9000000))]), (6, .v false [(.sl 3 [.int .i64], (.own 9000001))]), (7, .v false [(.sl 3 [.int .i64], (.own 9000002))]), (8, .v false [(.int .i64, .nil)]), (9, .v false [(.int .i64, .nil)]), (10, .v false [(.int .i64, .nil)]), (11, .v false [(.int .i64, .nil)]), (12, .v false [(.int .i64, .nil)]), (13, .v false [(.int .i64, .nil)]), (14, .v false [(.int .i64, .nil)]), (15, .v false [(.int .i64, .nil)]), (16, .v false [(.int .i64, .nil)])], [], [9000000, 9000001, 9000002]⟩
def X_s_Compress_8 : List (Ex × Sk) := [((.exit 0), ⟨[(0, .v false [(.sl 3 [.int .i64], .ro)]), (5, .v false [(.sl 3 [.int .i64], (.own 9000000))]), (8, .v false [(.int .i64, .nil)]), (9, .v false [(.int .i64, .nil)]), (10, .v false [(.int .i64, .nil)]), (11, .v false [(.int .i64, .nil)]), (12, .v false [(.int .i64, .nil)]), (13, .v false [(.int .i64, .nil)]), (14, .v false [(.int .i64, .nil)]), (15, .v false [(.int .i64, .nil)])], [], [9000000]⟩)]
def Q_s_Compress : Loops := fun i st => cond (Nat.beq i 8) (lam K_s_Compress_8 9000000 X_s_Compress_8 B_s_Compress_8 st) <| cond (Nat.beq i 22) (lam K_s_Compress_22 23000000 X_s_Compress_22 B_s_Compress_22 st) <| .fail
theorem lp_s_Compress_8 : ∀ d, bod ⟨lookT tys, ctrOf C_s_Compress, kindOf C_s_Compress, 3, 4⟩ 0 Tryz.f332.ntmps Q_s_Compress (nthLoop Tryz.f332 0) K_s_Compress_8 9000000 X_s_Compress_8 d = B_s_Compress_8 d := fun d => by kernel_rfl
theorem lo_s_Compress_8 (cx : Cx) (hp : cx.pin.length ≤ 0) : LoopOk Tryz.prog cx Tryz.f332.ntmps Q_s_Compress (nthLoop Tryz.f332 0) := loop_of (cfgOk_of mixed tys_ok (show FnsOk Tryz.prog C_s_Compress from ⟨fn_s_l2Words, fn_s_l2K, fn_s_Schedule, fn_s_Rot, trivial⟩)) hp (all_of (by kernel_rfl : loopsOf (nthLoop Tryz.f332 0) = []) trivial) (by kernel_rfl) lp_s_Compress_8
theorem lp_s_Compress_22 : ∀ d, bod ⟨lookT tys, ctrOf C_s_Compress, kindOf C_s_Compress, 3, 4⟩ 0 Tryz.f332.ntmps Q_s_Compress (nthLoop Tryz.f332 1) K_s_Compress_22 23000000 X_s_Compress_22 d = B_s_Compress_22 d := fun d => by kernel_rfl
theorem lo_s_Compress_22 (cx : Cx) (hp : cx.pin.length ≤ 0) : LoopOk Tryz.prog cx Tryz.f332.ntmps Q_s_Compress (nthLoop Tryz.f332 1) := loop_of (cfgOk_of mixed tys_ok (show FnsOk Tryz.prog C_s_Compress from ⟨fn_s_l2Words, fn_s_l2K, fn_s_Schedule, fn_s_Rot, trivial⟩)) hp (all_of (by kernel_rfl : loopsOf (nthLoop Tryz.f332 1) = []) trivial) (by kernel_rfl) lp_s_Compress_22
theorem e_s_Compress : ∀ d, pcall ⟨lookT tys, ctrOf C_s_Compress, kindOf C_s_Compress, 3, 4⟩ 0 Q_s_Compress Tryz.f332 .plain (mkA P_s_Compress d) = (T_s_Compress d.1 d.2.1).run fun r => some (O_s_Compress r) := fun d => by kernel_rfl
theorem fn_s_Compress : Fn Tryz.prog 332 .plain F_s_Compress := fn_of (cfgOk_of mixed tys_ok (show FnsOk Tryz.prog C_s_Compress from ⟨fn_s_l2Words, fn_s_l2K, fn_s_Schedule, fn_s_Rot, trivial⟩)) Tryz.func332 (by kernel_rfl) (by kernel_rfl) (fun cx b hp hb => all_of (by kernel_rfl : loopsOf (Tryz.f332.body.getD .skip) = [nthLoop Tryz.f332 0, nthLoop Tryz.f332 1]) ⟨lo_s_Compress_8 cx hp, lo_s_Compress_22 cx hp, trivial⟩ b hb) (R := ((List YI) × Unit)) (T := fun (d : aden P_s_Compress) => T_s_Compress d.1 d.2.1) e_s_Compress
def P_s_l2Out : List (Bool × List Sh) := [(false, [.sl 3 [.int .i64]])]
def O_s_l2Out (r : (YBs)) : List RV × List RV := ([rv (false, [.sl 5 [.int .u8]]) r], [])
def C_s_l2Out : Fns := [(245, .plain, F_s_PutN)]
def F_s_l2Out : Fun1 := funV P_s_l2Out (fun d => (T_s_l2Out d.1).val) O_s_l2Out
def K_s_l2Out_3 : Sk := ⟨[(0, .v false [(.sl 3 [.int .i64], .ro)]), (3, .v false [(.sl 5 [.int .u8], (.own 4000000))]), (4, .v false [(.int .i64, .nil)])], [], [4000000]⟩
def X_s_l2Out_3 : List (Ex × Sk) := [((.exit 0), ⟨[(3, .v false [(.sl 5 [.int .u8], (.own 4000000))])], [], [4000000]⟩)]
def Q_s_l2Out : Loops := fun i st => cond (Nat.beq i 3) (lam K_s_l2Out_3 4000000 X_s_l2Out_3 B_s_l2Out_3 st) <| .fail
theorem lp_s_l2Out_3 : ∀ d, bod ⟨lookT tys, ctrOf C_s_l2Out, kindOf C_s_l2Out, 3, 4⟩ 0 Tryz.f333.ntmps Q_s_l2Out (nthLoop Tryz.f333 0) K_s_l2Out_3 4000000 X_s_l2Out_3 d = B_s_l2Out_3 d := fun d => by kernel_rfl
theorem lo_s_l2Out_3 (cx : Cx) (hp : cx.pin.length ≤ 0) : LoopOk Tryz.prog cx Tryz.f333.ntmps Q_s_l2Out (nthLoop Tryz.f333 0) := loop_of (cfgOk_of mixed tys_ok (show FnsOk Tryz.prog C_s_l2Out from ⟨fn_s_PutN, trivial⟩)) hp (all_of (by kernel_rfl : loopsOf (nthLoop Tryz.f333 0) = []) trivial) (by kernel_rfl) lp_s_l2Out_3
theorem e_s_l2Out : ∀ d, pcall ⟨lookT tys, ctrOf C_s_l2Out, kindOf C_s_l2Out, 3, 4⟩ 0 Q_s_l2Out Tryz.f333 .plain (mkA P_s_l2Out d) = (T_s_l2Out d.1).run fun r => some (O_s_l2Out r) := fun d => by kernel_rfl
theorem fn_s_l2Out : Fn Tryz.prog 333 .plain F_s_l2Out := fn_of (cfgOk_of mixed tys_ok (show FnsOk Tryz.prog C_s_l2Out from ⟨fn_s_PutN, trivial⟩)) Tryz.func333 (by kernel_rfl) (by kernel_rfl) (fun cx b hp hb => all_of (by kernel_rfl : loopsOf (Tryz.f333.body.getD .skip) = [nthLoop Tryz.f333 0]) ⟨lo_s_l2Out_3 cx hp, trivial⟩ b hb) (R := (YBs)) (T := fun (d : aden P_s_l2Out) => T_s_l2Out d.1) e_s_l2Out
def P_s_Sha : List (Bool × List Sh) := [(false, [.sl 5 [.int .u8]])]
def O_s_Sha (r : (YBs)) : List RV × List RV := ([rv (false, [.sl 5 [.int .u8]]) r], [])
def C_s_Sha : Fns := [(330, .plain, F_s_Pad), (331, .plain, F_s_Start), (332, .plain, F_s_Compress), (333, .plain, F_s_l2Out)]
def F_s_Sha : Fun1 := funV P_s_Sha (fun d => (T_s_Sha d.1).val) O_s_Sha
def K_s_Sha_6 : Sk := ⟨[(3, .v false [(.sl 5 [.int .u8], (.own 7000000))]), (4, .v false [(.sl 3 [.int .i64], (.own 7000001))]), (5, .v false [(.int .i64, .nil)])], [], [7000000, 7000001]⟩
def X_s_Sha_6 : List (Ex × Sk) := [((.exit 0), ⟨[(4, .v false [(.sl 3 [.int .i64], (.own 7000000))])], [], [7000000]⟩)]
def Q_s_Sha : Loops := fun i st => cond (Nat.beq i 6) (lam K_s_Sha_6 7000000 X_s_Sha_6 B_s_Sha_6 st) <| .fail
theorem lp_s_Sha_6 : ∀ d, bod ⟨lookT tys, ctrOf C_s_Sha, kindOf C_s_Sha, 3, 4⟩ 0 Tryz.f316.ntmps Q_s_Sha (nthLoop Tryz.f316 0) K_s_Sha_6 7000000 X_s_Sha_6 d = B_s_Sha_6 d := fun d => by kernel_rfl
theorem lo_s_Sha_6 (cx : Cx) (hp : cx.pin.length ≤ 0) : LoopOk Tryz.prog cx Tryz.f316.ntmps Q_s_Sha (nthLoop Tryz.f316 0) := loop_of (cfgOk_of mixed tys_ok (show FnsOk Tryz.prog C_s_Sha from ⟨fn_s_Pad, fn_s_Start, fn_s_Compress, fn_s_l2Out, trivial⟩)) hp (all_of (by kernel_rfl : loopsOf (nthLoop Tryz.f316 0) = []) trivial) (by kernel_rfl) lp_s_Sha_6
theorem e_s_Sha : ∀ d, pcall ⟨lookT tys, ctrOf C_s_Sha, kindOf C_s_Sha, 3, 4⟩ 0 Q_s_Sha Tryz.f316 .plain (mkA P_s_Sha d) = (T_s_Sha d.1).run fun r => some (O_s_Sha r) := fun d => by kernel_rfl
theorem fn_s_Sha : Fn Tryz.prog 316 .plain F_s_Sha := fn_of (cfgOk_of mixed tys_ok (show FnsOk Tryz.prog C_s_Sha from ⟨fn_s_Pad, fn_s_Start, fn_s_Compress, fn_s_l2Out, trivial⟩)) Tryz.func316 (by kernel_rfl) (by kernel_rfl) (fun cx b hp hb => all_of (by kernel_rfl : loopsOf (Tryz.f316.body.getD .skip) = [nthLoop Tryz.f316 0]) ⟨lo_s_Sha_6 cx hp, trivial⟩ b hb) (R := (YBs)) (T := fun (d : aden P_s_Sha) => T_s_Sha d.1) e_s_Sha
def P_s_BlockKey : List (Bool × List Sh) := [(false, [.sl 5 [.int .u8]])]
def O_s_BlockKey (r : (YBs)) : List RV × List RV := ([rv (false, [.sl 5 [.int .u8]]) r], [])
def C_s_BlockKey : Fns := [(316, .plain, F_s_Sha)]
def F_s_BlockKey : Fun1 := funV P_s_BlockKey (fun d => (T_s_BlockKey d.1).val) O_s_BlockKey
def K_s_BlockKey_6 : Sk := ⟨[(3, .v false [(.sl 5 [.int .u8], (.own 7000000))])], [], [7000000]⟩
def X_s_BlockKey_6 : List (Ex × Sk) := [((.exit 0), ⟨[(3, .v false [(.sl 5 [.int .u8], (.own 7000000))])], [], [7000000]⟩)]
def Q_s_BlockKey : Loops := fun i st => cond (Nat.beq i 6) (lam K_s_BlockKey_6 7000000 X_s_BlockKey_6 B_s_BlockKey_6 st) <| .fail
theorem lp_s_BlockKey_6 : ∀ d, bod ⟨lookT tys, ctrOf C_s_BlockKey, kindOf C_s_BlockKey, 3, 4⟩ 0 Tryz.f315.ntmps Q_s_BlockKey (nthLoop Tryz.f315 0) K_s_BlockKey_6 7000000 X_s_BlockKey_6 d = B_s_BlockKey_6 d := fun d => by kernel_rfl
theorem lo_s_BlockKey_6 (cx : Cx) (hp : cx.pin.length ≤ 0) : LoopOk Tryz.prog cx Tryz.f315.ntmps Q_s_BlockKey (nthLoop Tryz.f315 0) := loop_of (cfgOk_of mixed tys_ok (show FnsOk Tryz.prog C_s_BlockKey from ⟨fn_s_Sha, trivial⟩)) hp (all_of (by kernel_rfl : loopsOf (nthLoop Tryz.f315 0) = []) trivial) (by kernel_rfl) lp_s_BlockKey_6
theorem e_s_BlockKey : ∀ d, pcall ⟨lookT tys, ctrOf C_s_BlockKey, kindOf C_s_BlockKey, 3, 4⟩ 0 Q_s_BlockKey Tryz.f315 .plain (mkA P_s_BlockKey d) = (T_s_BlockKey d.1).run fun r => some (O_s_BlockKey r) := fun d => by kernel_rfl
theorem fn_s_BlockKey : Fn Tryz.prog 315 .plain F_s_BlockKey := fn_of (cfgOk_of mixed tys_ok (show FnsOk Tryz.prog C_s_BlockKey from ⟨fn_s_Sha, trivial⟩)) Tryz.func315 (by kernel_rfl) (by kernel_rfl) (fun cx b hp hb => all_of (by kernel_rfl : loopsOf (Tryz.f315.body.getD .skip) = [nthLoop Tryz.f315 0]) ⟨lo_s_BlockKey_6 cx hp, trivial⟩ b hb) (R := (YBs)) (T := fun (d : aden P_s_BlockKey) => T_s_BlockKey d.1) e_s_BlockKey
def P_s_Hmac : List (Bool × List Sh) := [(false, [.sl 5 [.int .u8]]), (false, [.sl 5 [.int .u8]])]
def O_s_Hmac (r : (YBs)) : List RV × List RV := ([rv (false, [.sl 5 [.int .u8]]) r], [])
def C_s_Hmac : Fns := [(315, .plain, F_s_BlockKey), (316, .plain, F_s_Sha)]
def F_s_Hmac : Fun1 := funV P_s_Hmac (fun d => (T_s_Hmac d.1 d.2.1).val) O_s_Hmac
def K_s_Hmac_7 : Sk := ⟨[(1, .v false [(.sl 5 [.int .u8], .ro)]), (5, .v false [(.sl 5 [.int .u8], (.own 8000000))]), (6, .v false [(.sl 5 [.int .u8], (.own 8000001))]), (7, .v false [(.sl 5 [.int .u8], (.own 8000002))]), (8, .v false [(.int .i64, .nil)])], [], [8000000, 8000001, 8000002]⟩
def X_s_Hmac_7 : List (Ex × Sk) := [((.exit 0), ⟨[(1, .v false [(.sl 5 [.int .u8], .ro)]), (6, .v false [(.sl 5 [.int .u8], (.own 8000000))]), (7, .v false [(.sl 5 [.int .u8], (.own 8000001))])], [], [8000000, 8000001]⟩)]
def Q_s_Hmac : Loops := fun i st => cond (Nat.beq i 7) (lam K_s_Hmac_7 8000000 X_s_Hmac_7 B_s_Hmac_7 st) <| .fail
theorem lp_s_Hmac_7 : ∀ d, bod ⟨lookT tys, ctrOf C_s_Hmac, kindOf C_s_Hmac, 3, 4⟩ 0 Tryz.f289.ntmps Q_s_Hmac (nthLoop Tryz.f289 0) K_s_Hmac_7 8000000 X_s_Hmac_7 d = B_s_Hmac_7 d := fun d => by kernel_rfl
theorem lo_s_Hmac_7 (cx : Cx) (hp : cx.pin.length ≤ 0) : LoopOk Tryz.prog cx Tryz.f289.ntmps Q_s_Hmac (nthLoop Tryz.f289 0) := loop_of (cfgOk_of mixed tys_ok (show FnsOk Tryz.prog C_s_Hmac from ⟨fn_s_BlockKey, fn_s_Sha, trivial⟩)) hp (all_of (by kernel_rfl : loopsOf (nthLoop Tryz.f289 0) = []) trivial) (by kernel_rfl) lp_s_Hmac_7
theorem e_s_Hmac : ∀ d, pcall ⟨lookT tys, ctrOf C_s_Hmac, kindOf C_s_Hmac, 3, 4⟩ 0 Q_s_Hmac Tryz.f289 .plain (mkA P_s_Hmac d) = (T_s_Hmac d.1 d.2.1).run fun r => some (O_s_Hmac r) := fun d => by kernel_rfl
theorem fn_s_Hmac : Fn Tryz.prog 289 .plain F_s_Hmac := fn_of (cfgOk_of mixed tys_ok (show FnsOk Tryz.prog C_s_Hmac from ⟨fn_s_BlockKey, fn_s_Sha, trivial⟩)) Tryz.func289 (by kernel_rfl) (by kernel_rfl) (fun cx b hp hb => all_of (by kernel_rfl : loopsOf (Tryz.f289.body.getD .skip) = [nthLoop Tryz.f289 0]) ⟨lo_s_Hmac_7 cx hp, trivial⟩ b hb) (R := (YBs)) (T := fun (d : aden P_s_Hmac) => T_s_Hmac d.1 d.2.1) e_s_Hmac
def F_s_BlockOf : Fun1 := funV [(false, [.sl 5 [.int .u8]]), (false, [.sl 5 [.int .u8]]), (false, [.int .i64])] (fun d => (T_s_BlockOf d.1 d.2.1 d.2.2.1).val) fun r => ([rv (false, [.sl 5 [.int .u8]]) r], [])
theorem fn_s_BlockOf : Fn Tryz.prog 340 .plain F_s_BlockOf := mkF [(68, .plain, F_s_l1In), (245, .plain, F_s_PutN), (289, .plain, F_s_Hmac)] ⟨fn_s_l1In, fn_s_PutN, fn_s_Hmac, trivial⟩ Tryz.func340 (by kernel_rfl) (by kernel_rfl) (by kernel_rfl) 0 fun d => by kernel_rfl
def P_s_Stream : List (Bool × List Sh) := [(false, [.sl 5 [.int .u8]]), (false, [.sl 5 [.int .u8]]), (false, [.int .i64])]
def O_s_Stream (r : (YBs)) : List RV × List RV := ([rv (false, [.sl 5 [.int .u8]]) r], [])
def C_s_Stream : Fns := [(68, .plain, F_s_l1In), (340, .plain, F_s_BlockOf)]
def F_s_Stream : Fun1 := funV P_s_Stream (fun d => (T_s_Stream d.1 d.2.1 d.2.2.1).val) O_s_Stream
def K_s_Stream_5 : Sk := ⟨[(0, .v false [(.sl 5 [.int .u8], .ro)]), (1, .v false [(.sl 5 [.int .u8], .ro)]), (2, .v false [(.int .i64, .nil)]), (7, .v false [(.sl 5 [.int .u8], (.own 6000000))]), (8, .v false [(.int .i64, .nil)])], [], [6000000]⟩
def X_s_Stream_5 : List (Ex × Sk) := [((.exit 0), ⟨[(2, .v false [(.int .i64, .nil)]), (7, .v false [(.sl 5 [.int .u8], (.own 6000000))])], [], [6000000]⟩)]
def Q_s_Stream : Loops := fun i st => cond (Nat.beq i 5) (lam K_s_Stream_5 6000000 X_s_Stream_5 B_s_Stream_5 st) <| .fail
theorem lp_s_Stream_5 : ∀ d, bod ⟨lookT tys, ctrOf C_s_Stream, kindOf C_s_Stream, 3, 4⟩ 0 Tryz.f326.ntmps Q_s_Stream (nthLoop Tryz.f326 0) K_s_Stream_5 6000000 X_s_Stream_5 d = B_s_Stream_5 d := fun d => by kernel_rfl
theorem lo_s_Stream_5 (cx : Cx) (hp : cx.pin.length ≤ 0) : LoopOk Tryz.prog cx Tryz.f326.ntmps Q_s_Stream (nthLoop Tryz.f326 0) := loop_of (cfgOk_of mixed tys_ok (show FnsOk Tryz.prog C_s_Stream from ⟨fn_s_l1In, fn_s_BlockOf, trivial⟩)) hp (all_of (by kernel_rfl : loopsOf (nthLoop Tryz.f326 0) = []) trivial) (by kernel_rfl) lp_s_Stream_5
theorem e_s_Stream : ∀ d, pcall ⟨lookT tys, ctrOf C_s_Stream, kindOf C_s_Stream, 3, 4⟩ 0 Q_s_Stream Tryz.f326 .plain (mkA P_s_Stream d) = (T_s_Stream d.1 d.2.1 d.2.2.1).run fun r => some (O_s_Stream r) := fun d => by kernel_rfl
theorem fn_s_Stream : Fn Tryz.prog 326 .plain F_s_Stream := fn_of (cfgOk_of mixed tys_ok (show FnsOk Tryz.prog C_s_Stream from ⟨fn_s_l1In, fn_s_BlockOf, trivial⟩)) Tryz.func326 (by kernel_rfl) (by kernel_rfl) (fun cx b hp hb => all_of (by kernel_rfl : loopsOf (Tryz.f326.body.getD .skip) = [nthLoop Tryz.f326 0]) ⟨lo_s_Stream_5 cx hp, trivial⟩ b hb) (R := (YBs)) (T := fun (d : aden P_s_Stream) => T_s_Stream d.1 d.2.1 d.2.2.1) e_s_Stream
def P_s_Mix : List (Bool × List Sh) := [(false, [.sl 5 [.int .u8]]), (false, [.sl 5 [.int .u8]]), (false, [.sl 5 [.int .u8]])]
def O_s_Mix (r : (YBs)) : List RV × List RV := ([rv (false, [.sl 5 [.int .u8]]) r], [])
def C_s_Mix : Fns := [(326, .plain, F_s_Stream)]
def F_s_Mix : Fun1 := funV P_s_Mix (fun d => (T_s_Mix d.1 d.2.1 d.2.2.1).val) O_s_Mix
def K_s_Mix_6 : Sk := ⟨[(2, .v false [(.sl 5 [.int .u8], .ro)]), (7, .v false [(.sl 5 [.int .u8], (.own 7000000))]), (8, .v false [(.sl 5 [.int .u8], (.own 7000001))]), (9, .v false [(.int .i64, .nil)])], [], [7000000, 7000001]⟩
def X_s_Mix_6 : List (Ex × Sk) := [((.exit 0), ⟨[(7, .v false [(.sl 5 [.int .u8], (.own 7000000))])], [], [7000000]⟩)]
def Q_s_Mix : Loops := fun i st => cond (Nat.beq i 6) (lam K_s_Mix_6 7000000 X_s_Mix_6 B_s_Mix_6 st) <| .fail
theorem lp_s_Mix_6 : ∀ d, bod ⟨lookT tys, ctrOf C_s_Mix, kindOf C_s_Mix, 3, 4⟩ 0 Tryz.f307.ntmps Q_s_Mix (nthLoop Tryz.f307 0) K_s_Mix_6 7000000 X_s_Mix_6 d = B_s_Mix_6 d := fun d => by kernel_rfl
theorem lo_s_Mix_6 (cx : Cx) (hp : cx.pin.length ≤ 0) : LoopOk Tryz.prog cx Tryz.f307.ntmps Q_s_Mix (nthLoop Tryz.f307 0) := loop_of (cfgOk_of mixed tys_ok (show FnsOk Tryz.prog C_s_Mix from ⟨fn_s_Stream, trivial⟩)) hp (all_of (by kernel_rfl : loopsOf (nthLoop Tryz.f307 0) = []) trivial) (by kernel_rfl) lp_s_Mix_6
theorem e_s_Mix : ∀ d, pcall ⟨lookT tys, ctrOf C_s_Mix, kindOf C_s_Mix, 3, 4⟩ 0 Q_s_Mix Tryz.f307 .plain (mkA P_s_Mix d) = (T_s_Mix d.1 d.2.1 d.2.2.1).run fun r => some (O_s_Mix r) := fun d => by kernel_rfl
theorem fn_s_Mix : Fn Tryz.prog 307 .plain F_s_Mix := fn_of (cfgOk_of mixed tys_ok (show FnsOk Tryz.prog C_s_Mix from ⟨fn_s_Stream, trivial⟩)) Tryz.func307 (by kernel_rfl) (by kernel_rfl) (fun cx b hp hb => all_of (by kernel_rfl : loopsOf (Tryz.f307.body.getD .skip) = [nthLoop Tryz.f307 0]) ⟨lo_s_Mix_6 cx hp, trivial⟩ b hb) (R := (YBs)) (T := fun (d : aden P_s_Mix) => T_s_Mix d.1 d.2.1 d.2.2.1) e_s_Mix
def F_s_FrameOk : Fun1 := funV [(true, h_9)] (fun d => (T_s_FrameOk d.1).val) fun r => ([rv (false, [.bool]) r], [])
theorem fn_s_FrameOk : Fn Tryz.prog 155 .plain F_s_FrameOk := mkF [(163, .plain, F_s_Sealed), (68, .plain, F_s_l1In), (238, .plain, F_s_l7Body)] ⟨fn_s_Sealed, fn_s_l1In, fn_s_l7Body, trivial⟩ Tryz.func155 (by kernel_rfl) (by kernel_rfl) (by kernel_rfl) 0 fun d => by kernel_rfl
def F_s_TagInput : Fun1 := funV [(false, [.int .i64]), (true, h_9)] (fun d => (T_s_TagInput d.1 d.2.1).val) fun r => ([rv (false, [.sl 5 [.int .u8]]) r], [])
theorem fn_s_TagInput : Fn Tryz.prog 167 .plain F_s_TagInput := mkF [(68, .plain, F_s_l1In), (155, .plain, F_s_FrameOk), (163, .plain, F_s_Sealed), (247, .plain, F_s_HeadOf)] ⟨fn_s_l1In, fn_s_FrameOk, fn_s_Sealed, fn_s_HeadOf, trivial⟩ Tryz.func167 (by kernel_rfl) (by kernel_rfl) (by kernel_rfl) 0 fun d => by kernel_rfl
def F_s_Tag : Fun1 := funV [(false, [.sl 5 [.int .u8]]), (false, [.sl 5 [.int .u8]])] (fun d => (T_s_Tag d.1 d.2.1).val) fun r => ([rv (false, [.sl 5 [.int .u8]]) r], [])
theorem fn_s_Tag : Fn Tryz.prog 291 .plain F_s_Tag := mkF [(289, .plain, F_s_Hmac)] ⟨fn_s_Hmac, trivial⟩ Tryz.func291 (by kernel_rfl) (by kernel_rfl) (by kernel_rfl) 0 fun d => by kernel_rfl
def P_s_Seal : List (Bool × List Sh) := [(false, [.sl 5 [.int .u8]]), (false, [.int .i64]), (false, [.sl 5 [.int .u8]]), (false, [.int .i64]), (false, [.int .i64]), (false, [.int .i64]), (false, [.sl 5 [.int .u8]])]
def O_s_Seal (r : (YFrame) × (Bool × Unit)) : List RV × List RV := ([rv (true, h_9) r.1, rv (false, [.bool]) r.2], [])
def C_s_Seal : Fns := [(247, .plain, F_s_HeadOf), (163, .plain, F_s_Sealed), (238, .plain, F_s_l7Body), (307, .plain, F_s_Mix), (167, .plain, F_s_TagInput), (291, .plain, F_s_Tag)]
def F_s_Seal : Fun1 := funV P_s_Seal (fun d => (T_s_Seal d.1 d.2.1 d.2.2.1 d.2.2.2.1 d.2.2.2.2.1 d.2.2.2.2.2.1 d.2.2.2.2.2.2.1).val) O_s_Seal
def K_s_Seal_6 : Sk := ⟨[(0, .v false [(.sl 5 [.int .u8], .ro)]), (1, .v false [(.int .i64, .nil)]), (14, .box 14 0), (17, .box 17 0), (18, .v false [(.int .i64, .nil)])], [(14, [(.int .i64, .nil), (.int .i64, .nil), (.sl 5 [.int .u8], (.own 7000000)), (.sl 5 [.int .u8], (.own 7000001)), (.int .i64, .nil), (.sl 5 [.int .u8], (.own 7000002)), (.sl 5 [.int .u8], (.own 7000003)), (.int .i64, .nil), (.int .i64, .nil), (.sl 5 [.int .u8], (.own 7000004)), (.sl 5 [.int .u8], (.own 7000005))]), (17, [(.int .i64, .nil), (.int .i64, .nil), (.sl 5 [.int .u8], (.own 7000006)), (.sl 5 [.int .u8], (.own 7000007)), (.int .i64, .nil), (.sl 5 [.int .u8], (.own 7000008)), (.sl 5 [.int .u8], (.own 7000009)), (.int .i64, .nil), (.int .i64, .nil), (.sl 5 [.int .u8], (.own 7000010)), (.sl 5 [.int .u8], (.own 7000011))])], [7000000, 7000001, 7000002, 7000003, 7000004, 7000005, 7000006, 7000007, 7000008, 7000009, 7000010, 7000011]⟩
def X_s_Seal_6 : List (Ex × Sk) := [((.exit 0), ⟨[(0, .v false [(.sl 5 [.int .u8], .ro)]), (1, .v false [(.int .i64, .nil)]), (14, .box 14 0), (17, .box 17 0)], [(14, [(.int .i64, .nil), (.int .i64, .nil), (.sl 5 [.int .u8], (.own 7000000)), (.sl 5 [.int .u8], (.own 7000001)), (.int .i64, .nil), (.sl 5 [.int .u8], (.own 7000002)), (.sl 5 [.int .u8], (.own 7000003)), (.int .i64, .nil), (.int .i64, .nil), (.sl 5 [.int .u8], (.own 7000004)), (.sl 5 [.int .u8], (.own 7000005))]), (17, [(.int .i64, .nil), (.int .i64, .nil), (.sl 5 [.int .u8], (.own 7000006)), (.sl 5 [.int .u8], (.own 7000007)), (.int .i64, .nil), (.sl 5 [.int .u8], (.own 7000008)), (.sl 5 [.int .u8], (.own 7000009)), (.int .i64, .nil), (.int .i64, .nil), (.sl 5 [.int .u8], (.own 7000010)), (.sl 5 [.int .u8], (.own 7000011))])], [7000000, 7000001, 7000002, 7000003, 7000004, 7000005, 7000006, 7000007, 7000008, 7000009, 7000010, 7000011]⟩)]
def Q_s_Seal : Loops := fun i st => cond (Nat.beq i 6) (lam K_s_Seal_6 7000000 X_s_Seal_6 B_s_Seal_6 st) <| .fail
theorem lp_s_Seal_6 : ∀ d, bod ⟨lookT tys, ctrOf C_s_Seal, kindOf C_s_Seal, 3, 4⟩ 0 Tryz.f269.ntmps Q_s_Seal (nthLoop Tryz.f269 0) K_s_Seal_6 7000000 X_s_Seal_6 d = B_s_Seal_6 d := fun d => by kernel_rfl
theorem lo_s_Seal_6 (cx : Cx) (hp : cx.pin.length ≤ 0) : LoopOk Tryz.prog cx Tryz.f269.ntmps Q_s_Seal (nthLoop Tryz.f269 0) := loop_of (cfgOk_of mixed tys_ok (show FnsOk Tryz.prog C_s_Seal from ⟨fn_s_HeadOf, fn_s_Sealed, fn_s_l7Body, fn_s_Mix, fn_s_TagInput, fn_s_Tag, trivial⟩)) hp (all_of (by kernel_rfl : loopsOf (nthLoop Tryz.f269 0) = []) trivial) (by kernel_rfl) lp_s_Seal_6
theorem e_s_Seal : ∀ d, pcall ⟨lookT tys, ctrOf C_s_Seal, kindOf C_s_Seal, 3, 4⟩ 0 Q_s_Seal Tryz.f269 .plain (mkA P_s_Seal d) = (T_s_Seal d.1 d.2.1 d.2.2.1 d.2.2.2.1 d.2.2.2.2.1 d.2.2.2.2.2.1 d.2.2.2.2.2.2.1).run fun r => some (O_s_Seal r) := fun d => by kernel_rfl
theorem fn_s_Seal : Fn Tryz.prog 269 .plain F_s_Seal := fn_of (cfgOk_of mixed tys_ok (show FnsOk Tryz.prog C_s_Seal from ⟨fn_s_HeadOf, fn_s_Sealed, fn_s_l7Body, fn_s_Mix, fn_s_TagInput, fn_s_Tag, trivial⟩)) Tryz.func269 (by kernel_rfl) (by kernel_rfl) (fun cx b hp hb => all_of (by kernel_rfl : loopsOf (Tryz.f269.body.getD .skip) = [nthLoop Tryz.f269 0]) ⟨lo_s_Seal_6 cx hp, trivial⟩ b hb) (R := (YFrame) × (Bool × Unit)) (T := fun (d : aden P_s_Seal) => T_s_Seal d.1 d.2.1 d.2.2.1 d.2.2.2.1 d.2.2.2.2.1 d.2.2.2.2.2.1 d.2.2.2.2.2.2.1) e_s_Seal
def F_s_EpSeal : Fun1 := funV [(true, h_5), (false, [.int .i64]), (false, [.sl 5 [.int .u8]]), (false, [.int .i64]), (false, [.sl 5 [.int .u8]])] (fun d => (T_s_EpSeal d.1 d.2.1 d.2.2.1 d.2.2.2.1 d.2.2.2.2.1).val) fun r => ([rv (true, h_5) r.1, rv (true, h_9) r.2.1, rv (false, [.int .i64]) r.2.2], [])
theorem fn_s_EpSeal : Fn Tryz.prog 202 .plain F_s_EpSeal := mkF [(265, .plain, F_s_l9Copy), (268, .plain, F_s_EpOk), (247, .plain, F_s_HeadOf), (163, .plain, F_s_Sealed), (238, .plain, F_s_l7Body), (269, .plain, F_s_Seal)] ⟨fn_s_l9Copy, fn_s_EpOk, fn_s_HeadOf, fn_s_Sealed, fn_s_l7Body, fn_s_Seal, trivial⟩ Tryz.func202 (by kernel_rfl) (by kernel_rfl) (by kernel_rfl) 0 fun d => by kernel_rfl
def F_s_ChanSeal : Fun1 := funV [(true, h_11), (false, [.int .i64]), (false, [.sl 5 [.int .u8]])] (fun d => (T_s_ChanSeal d.1 d.2.1 d.2.2.1).val) fun r => ([rv (true, h_11) r.1, rv (true, h_9) r.2.1, rv (false, [.int .i64]) r.2.2], [])
theorem fn_s_ChanSeal : Fn Tryz.prog 102 .plain F_s_ChanSeal := mkF [(196, .plain, F_s_l14Copy), (201, .plain, F_s_ChanOk), (202, .plain, F_s_EpSeal)] ⟨fn_s_l14Copy, fn_s_ChanOk, fn_s_EpSeal, trivial⟩ Tryz.func102 (by kernel_rfl) (by kernel_rfl) (by kernel_rfl) 0 fun d => by kernel_rfl
def F_s_Made : Fun1 := funV [(false, [.sl 5 [.int .u8]]), (false, [.sl 5 [.int .u8]])] (fun d => (T_s_Made d.1 d.2.1).val) fun r => ([rv (true, h_8) r], [])
theorem fn_s_Made : Fn Tryz.prog 160 .plain F_s_Made := mkF [] trivial Tryz.func160 (by kernel_rfl) (by kernel_rfl) (by kernel_rfl) 0 fun d => by kernel_rfl
def F_s_l19Made : Fun1 := funV [(true, h_11), (true, h_9)] (fun d => (T_s_l19Made d.1 d.2.1).val) fun r => ([rv (true, h_8) r], [])
theorem fn_s_l19Made : Fn Tryz.prog 103 .plain F_s_l19Made := mkF [(167, .plain, F_s_TagInput), (160, .plain, F_s_Made)] ⟨fn_s_TagInput, fn_s_Made, trivial⟩ Tryz.func103 (by kernel_rfl) (by kernel_rfl) (by kernel_rfl) 0 fun d => by kernel_rfl
def F_s_SessSend : Fun1 := funV [(true, h_13), (false, [.sl 5 [.int .u8]])] (fun d => (T_s_SessSend d.1 d.2.1).val) fun r => ([rv (true, h_13) r.1, rv (false, [.sl 175 h_10]) r.2.1, rv (false, [.sl 139 h_8]) r.2.2.1, rv (false, [.int .i64]) r.2.2.2], [])
theorem fn_s_SessSend : Fn Tryz.prog 36 .plain F_s_SessSend := mkF [(120, .plain, F_s_l20Copy), (121, .plain, F_s_SessOk), (102, .plain, F_s_ChanSeal), (103, .plain, F_s_l19Made)] ⟨fn_s_l20Copy, fn_s_SessOk, fn_s_ChanSeal, fn_s_l19Made, trivial⟩ Tryz.func36 (by kernel_rfl) (by kernel_rfl) (by kernel_rfl) 0 fun d => by kernel_rfl
def F_s_ServerSend : Fun1 := funV [(true, h_15), (false, [.int .i64]), (false, [.int .i64]), (false, [.sl 5 [.int .u8]])] (fun d => (T_s_ServerSend d.1 d.2.1 d.2.2.1 d.2.2.2.1).val) fun r => ([rv (true, h_15) r.1, rv (false, [.sl 175 h_10]) r.2.1, rv (false, [.sl 139 h_8]) r.2.2.1, rv (false, [.int .i64]) r.2.2.2], [])
theorem fn_s_ServerSend : Fn Tryz.prog 59 .plain F_s_ServerSend := mkF [(66, .plain, F_s_l22Copy), (67, .plain, F_s_ServerOk), (68, .plain, F_s_l1In), (36, .plain, F_s_SessSend)] ⟨fn_s_l22Copy, fn_s_ServerOk, fn_s_l1In, fn_s_SessSend, trivial⟩ Tryz.func59 (by kernel_rfl) (by kernel_rfl) (by kernel_rfl) 0 fun d => by kernel_rfl
def F_i_clone : Fun1 := funV [(false, [.sl 5 [.int .u8]])] (fun d => (T_i_clone d.1).val) fun r => ([rv (false, [.sl 5 [.int .u8]]) r], [])
theorem fn_i_clone : Fn Tryz.prog 111 .plain F_i_clone := mkF [] trivial Tryz.func111 (by kernel_rfl) (by kernel_rfl) (by kernel_rfl) 0 fun d => by kernel_rfl
def P_i_cloneAll : List (Bool × List Sh) := [(false, [.sl 23 [.sl 5 [.int .u8]]])]
def O_i_cloneAll (r : ((List YBs) × Unit)) : List RV × List RV := ([rv (false, [.sl 23 [.sl 5 [.int .u8]]]) r], [])
def C_i_cloneAll : Fns := [(111, .plain, F_i_clone)]
def F_i_cloneAll : Fun1 := funV P_i_cloneAll (fun d => (T_i_cloneAll d.1).val) O_i_cloneAll
def K_i_cloneAll_3 : Sk := ⟨[(3, .v false [(.sl 23 [.sl 5 [.int .u8]], (.own 4000000))]), (7, .v false [(.sl 23 [.sl 5 [.int .u8]], .ro)]), (8, .v false [(.int .i64, .nil)]), (9, .v false [(.int .i64, .nil)])], [], [4000000]⟩
def X_i_cloneAll_3 : List (Ex × Sk) := [((.exit 0), ⟨[(3, .v false [(.sl 23 [.sl 5 [.int .u8]], (.own 4000000))])], [], [4000000]⟩)]
def Q_i_cloneAll : Loops := fun i st => cond (Nat.beq i 3) (lam K_i_cloneAll_3 4000000 X_i_cloneAll_3 B_i_cloneAll_3 st) <| .fail
theorem lp_i_cloneAll_3 : ∀ d, bod ⟨lookT tys, ctrOf C_i_cloneAll, kindOf C_i_cloneAll, 3, 4⟩ 0 Tryz.f183.ntmps Q_i_cloneAll (nthLoop Tryz.f183 0) K_i_cloneAll_3 4000000 X_i_cloneAll_3 d = B_i_cloneAll_3 d := fun d => by kernel_rfl
theorem lo_i_cloneAll_3 (cx : Cx) (hp : cx.pin.length ≤ 0) : LoopOk Tryz.prog cx Tryz.f183.ntmps Q_i_cloneAll (nthLoop Tryz.f183 0) := loop_of (cfgOk_of mixed tys_ok (show FnsOk Tryz.prog C_i_cloneAll from ⟨fn_i_clone, trivial⟩)) hp (all_of (by kernel_rfl : loopsOf (nthLoop Tryz.f183 0) = []) trivial) (by kernel_rfl) lp_i_cloneAll_3
theorem e_i_cloneAll : ∀ d, pcall ⟨lookT tys, ctrOf C_i_cloneAll, kindOf C_i_cloneAll, 3, 4⟩ 0 Q_i_cloneAll Tryz.f183 .plain (mkA P_i_cloneAll d) = (T_i_cloneAll d.1).run fun r => some (O_i_cloneAll r) := fun d => by kernel_rfl
theorem fn_i_cloneAll : Fn Tryz.prog 183 .plain F_i_cloneAll := fn_of (cfgOk_of mixed tys_ok (show FnsOk Tryz.prog C_i_cloneAll from ⟨fn_i_clone, trivial⟩)) Tryz.func183 (by kernel_rfl) (by kernel_rfl) (fun cx b hp hb => all_of (by kernel_rfl : loopsOf (Tryz.f183.body.getD .skip) = [nthLoop Tryz.f183 0]) ⟨lo_i_cloneAll_3 cx hp, trivial⟩ b hb) (R := ((List YBs) × Unit)) (T := fun (d : aden P_i_cloneAll) => T_i_cloneAll d.1) e_i_cloneAll
def F_i_copyWin : Fun1 := funV [(true, [.int .i64, .sl 3 [.int .i64]])] (fun d => (T_i_copyWin d.1).val) fun r => ([rv (true, [.int .i64, .sl 3 [.int .i64]]) r], [])
theorem fn_i_copyWin : Fn Tryz.prog 309 .plain F_i_copyWin := mkF [] trivial Tryz.func309 (by kernel_rfl) (by kernel_rfl) (by kernel_rfl) 0 fun d => by kernel_rfl
def F_i_copyEp : Fun1 := funV [(true, h_5)] (fun d => (T_i_copyEp d.1).val) fun r => ([rv (true, h_5) r], [])
theorem fn_i_copyEp : Fn Tryz.prog 271 .plain F_i_copyEp := mkF [(111, .plain, F_i_clone), (309, .plain, F_i_copyWin)] ⟨fn_i_clone, fn_i_copyWin, trivial⟩ Tryz.func271 (by kernel_rfl) (by kernel_rfl) (by kernel_rfl) 0 fun d => by kernel_rfl
def F_i_copyChan : Fun1 := funV [(true, h_11)] (fun d => (T_i_copyChan d.1).val) fun r => ([rv (true, h_11) r], [])
theorem fn_i_copyChan : Fn Tryz.prog 204 .plain F_i_copyChan := mkF [(111, .plain, F_i_clone), (271, .plain, F_i_copyEp)] ⟨fn_i_clone, fn_i_copyEp, trivial⟩ Tryz.func204 (by kernel_rfl) (by kernel_rfl) (by kernel_rfl) 0 fun d => by kernel_rfl
def P_i_copyPaths : List (Bool × List Sh) := [(true, h_7)]
def O_i_copyPaths (r : (YPaths)) : List RV × List RV := ([rv (true, h_7) r], [])
def C_i_copyPaths : Fns := [(111, .plain, F_i_clone)]
def F_i_copyPaths : Fun1 := funV P_i_copyPaths (fun d => (T_i_copyPaths d.1).val) O_i_copyPaths
def K_i_copyPaths_3 : Sk := ⟨[(2, .box 2 0), (3, .box 3 0), (10, .v false [(.sl 274 h_4, .ro)]), (11, .v false [(.int .i64, .nil)]), (12, .v false [(.int .i64, .nil)])], [(2, [(.int .i64, .nil), (.int .i64, .nil), (.sl 274 h_4, (.own 4000000))]), (3, [(.int .i64, .nil), (.int .i64, .nil), (.sl 274 h_4, (.own 4000001))])], [4000000, 4000001]⟩
def X_i_copyPaths_3 : List (Ex × Sk) := [((.exit 0), ⟨[(2, .box 2 0), (3, .box 3 0)], [(2, [(.int .i64, .nil), (.int .i64, .nil), (.sl 274 h_4, (.own 4000000))]), (3, [(.int .i64, .nil), (.int .i64, .nil), (.sl 274 h_4, (.own 4000001))])], [4000000, 4000001]⟩)]
def Q_i_copyPaths : Loops := fun i st => cond (Nat.beq i 3) (lam K_i_copyPaths_3 4000000 X_i_copyPaths_3 B_i_copyPaths_3 st) <| .fail
theorem lp_i_copyPaths_3 : ∀ d, bod ⟨lookT tys, ctrOf C_i_copyPaths, kindOf C_i_copyPaths, 3, 4⟩ 0 Tryz.f223.ntmps Q_i_copyPaths (nthLoop Tryz.f223 0) K_i_copyPaths_3 4000000 X_i_copyPaths_3 d = B_i_copyPaths_3 d := fun d => by kernel_rfl
theorem lo_i_copyPaths_3 (cx : Cx) (hp : cx.pin.length ≤ 0) : LoopOk Tryz.prog cx Tryz.f223.ntmps Q_i_copyPaths (nthLoop Tryz.f223 0) := loop_of (cfgOk_of mixed tys_ok (show FnsOk Tryz.prog C_i_copyPaths from ⟨fn_i_clone, trivial⟩)) hp (all_of (by kernel_rfl : loopsOf (nthLoop Tryz.f223 0) = []) trivial) (by kernel_rfl) lp_i_copyPaths_3
theorem e_i_copyPaths : ∀ d, pcall ⟨lookT tys, ctrOf C_i_copyPaths, kindOf C_i_copyPaths, 3, 4⟩ 0 Q_i_copyPaths Tryz.f223 .plain (mkA P_i_copyPaths d) = (T_i_copyPaths d.1).run fun r => some (O_i_copyPaths r) := fun d => by kernel_rfl
theorem fn_i_copyPaths : Fn Tryz.prog 223 .plain F_i_copyPaths := fn_of (cfgOk_of mixed tys_ok (show FnsOk Tryz.prog C_i_copyPaths from ⟨fn_i_clone, trivial⟩)) Tryz.func223 (by kernel_rfl) (by kernel_rfl) (fun cx b hp hb => all_of (by kernel_rfl : loopsOf (Tryz.f223.body.getD .skip) = [nthLoop Tryz.f223 0]) ⟨lo_i_copyPaths_3 cx hp, trivial⟩ b hb) (R := (YPaths)) (T := fun (d : aden P_i_copyPaths) => T_i_copyPaths d.1) e_i_copyPaths
def F_i_copySess : Fun1 := funV [(true, h_13)] (fun d => (T_i_copySess d.1).val) fun r => ([rv (true, h_13) r], [])
theorem fn_i_copySess : Fn Tryz.prog 123 .plain F_i_copySess := mkF [(111, .plain, F_i_clone), (204, .plain, F_i_copyChan), (223, .plain, F_i_copyPaths)] ⟨fn_i_clone, fn_i_copyChan, fn_i_copyPaths, trivial⟩ Tryz.func123 (by kernel_rfl) (by kernel_rfl) (by kernel_rfl) 0 fun d => by kernel_rfl
def P_i_copyTab : List (Bool × List Sh) := [(true, [.int .i64, .sl 100 h_13])]
def O_i_copyTab (r : (YTab)) : List RV × List RV := ([rv (true, [.int .i64, .sl 100 h_13]) r], [])
def C_i_copyTab : Fns := [(123, .plain, F_i_copySess)]
def F_i_copyTab : Fun1 := funV P_i_copyTab (fun d => (T_i_copyTab d.1).val) O_i_copyTab
def K_i_copyTab_3 : Sk := ⟨[(2, .box 2 0), (3, .box 3 0), (10, .v false [(.sl 100 h_13, .ro)]), (11, .v false [(.int .i64, .nil)]), (12, .v false [(.int .i64, .nil)])], [(2, [(.int .i64, .nil), (.sl 100 h_13, (.own 4000000))]), (3, [(.int .i64, .nil), (.sl 100 h_13, (.own 4000001))])], [4000000, 4000001]⟩
def X_i_copyTab_3 : List (Ex × Sk) := [((.exit 0), ⟨[(2, .box 2 0), (3, .box 3 0)], [(2, [(.int .i64, .nil), (.sl 100 h_13, (.own 4000000))]), (3, [(.int .i64, .nil), (.sl 100 h_13, (.own 4000001))])], [4000000, 4000001]⟩)]
def Q_i_copyTab : Loops := fun i st => cond (Nat.beq i 3) (lam K_i_copyTab_3 4000000 X_i_copyTab_3 B_i_copyTab_3 st) <| .fail
theorem lp_i_copyTab_3 : ∀ d, bod ⟨lookT tys, ctrOf C_i_copyTab, kindOf C_i_copyTab, 3, 4⟩ 0 Tryz.f184.ntmps Q_i_copyTab (nthLoop Tryz.f184 0) K_i_copyTab_3 4000000 X_i_copyTab_3 d = B_i_copyTab_3 d := fun d => by kernel_rfl
theorem lo_i_copyTab_3 (cx : Cx) (hp : cx.pin.length ≤ 0) : LoopOk Tryz.prog cx Tryz.f184.ntmps Q_i_copyTab (nthLoop Tryz.f184 0) := loop_of (cfgOk_of mixed tys_ok (show FnsOk Tryz.prog C_i_copyTab from ⟨fn_i_copySess, trivial⟩)) hp (all_of (by kernel_rfl : loopsOf (nthLoop Tryz.f184 0) = []) trivial) (by kernel_rfl) lp_i_copyTab_3
theorem e_i_copyTab : ∀ d, pcall ⟨lookT tys, ctrOf C_i_copyTab, kindOf C_i_copyTab, 3, 4⟩ 0 Q_i_copyTab Tryz.f184 .plain (mkA P_i_copyTab d) = (T_i_copyTab d.1).run fun r => some (O_i_copyTab r) := fun d => by kernel_rfl
theorem fn_i_copyTab : Fn Tryz.prog 184 .plain F_i_copyTab := fn_of (cfgOk_of mixed tys_ok (show FnsOk Tryz.prog C_i_copyTab from ⟨fn_i_copySess, trivial⟩)) Tryz.func184 (by kernel_rfl) (by kernel_rfl) (fun cx b hp hb => all_of (by kernel_rfl : loopsOf (Tryz.f184.body.getD .skip) = [nthLoop Tryz.f184 0]) ⟨lo_i_copyTab_3 cx hp, trivial⟩ b hb) (R := (YTab)) (T := fun (d : aden P_i_copyTab) => T_i_copyTab d.1) e_i_copyTab
def F_i_copyCredits : Fun1 := funV [(false, [.sl 218 h_2])] (fun d => (T_i_copyCredits d.1).val) fun r => ([rv (false, [.sl 218 h_2]) r], [])
theorem fn_i_copyCredits : Fn Tryz.prog 185 .plain F_i_copyCredits := mkF [] trivial Tryz.func185 (by kernel_rfl) (by kernel_rfl) (by kernel_rfl) 0 fun d => by kernel_rfl
def F_i_copyServer : Fun1 := funV [(true, h_15)] (fun d => (T_i_copyServer d.1).val) fun r => ([rv (true, h_15) r], [])
theorem fn_i_copyServer : Fn Tryz.prog 76 .plain F_i_copyServer := mkF [(183, .plain, F_i_cloneAll), (111, .plain, F_i_clone), (184, .plain, F_i_copyTab), (185, .plain, F_i_copyCredits)] ⟨fn_i_cloneAll, fn_i_clone, fn_i_copyTab, fn_i_copyCredits, trivial⟩ Tryz.func76 (by kernel_rfl) (by kernel_rfl) (by kernel_rfl) 0 fun d => by kernel_rfl
def F_i_within : Fun1 := funV [(false, [.int .i64]), (false, [.int .i64]), (false, [.int .i64])] (fun d => (T_i_within d.1 d.2.1 d.2.2.1).val) fun r => ([rv (false, [.bool]) r], [])
theorem fn_i_within : Fn Tryz.prog 109 .plain F_i_within := mkF [] trivial Tryz.func109 (by kernel_rfl) (by kernel_rfl) (by kernel_rfl) 0 fun d => by kernel_rfl
def F_i_JarOk : Fun1 := funV [(true, [.sl 5 [.int .u8]])] (fun d => (T_i_JarOk d.1).val) fun r => ([rv (false, [.bool]) r], [])
theorem fn_i_JarOk : Fn Tryz.prog 186 .plain F_i_JarOk := mkF [] trivial Tryz.func186 (by kernel_rfl) (by kernel_rfl) (by kernel_rfl) 0 fun d => by kernel_rfl
def F_i_DiceOk : Fun1 := funV [(true, [.sl 5 [.int .u8], .int .i64])] (fun d => (T_i_DiceOk d.1).val) fun r => ([rv (false, [.bool]) r], [])
theorem fn_i_DiceOk : Fn Tryz.prog 187 .plain F_i_DiceOk := mkF [(109, .plain, F_i_within)] ⟨fn_i_within, trivial⟩ Tryz.func187 (by kernel_rfl) (by kernel_rfl) (by kernel_rfl) 0 fun d => by kernel_rfl
def P_i_Live : List (Bool × List Sh) := [(true, [.int .i64, .sl 100 h_13])]
def O_i_Live (r : (YI)) : List RV × List RV := ([rv (false, [.int .i64]) r], [])
def C_i_Live : Fns := []
def F_i_Live : Fun1 := funV P_i_Live (fun d => (T_i_Live d.1).val) O_i_Live
def K_i_Live_3 : Sk := ⟨[(3, .v false [(.int .i64, .nil)]), (7, .v false [(.sl 100 h_13, .ro)]), (8, .v false [(.int .i64, .nil)]), (9, .v false [(.int .i64, .nil)])], [], []⟩
def X_i_Live_3 : List (Ex × Sk) := [((.exit 0), ⟨[(3, .v false [(.int .i64, .nil)])], [], []⟩)]
def Q_i_Live : Loops := fun i st => cond (Nat.beq i 3) (lam K_i_Live_3 4000000 X_i_Live_3 B_i_Live_3 st) <| .fail
theorem lp_i_Live_3 : ∀ d, bod ⟨lookT tys, ctrOf C_i_Live, kindOf C_i_Live, 3, 4⟩ 0 Tryz.f259.ntmps Q_i_Live (nthLoop Tryz.f259 0) K_i_Live_3 4000000 X_i_Live_3 d = B_i_Live_3 d := fun d => by kernel_rfl
theorem lo_i_Live_3 (cx : Cx) (hp : cx.pin.length ≤ 0) : LoopOk Tryz.prog cx Tryz.f259.ntmps Q_i_Live (nthLoop Tryz.f259 0) := loop_of (cfgOk_of mixed tys_ok (show FnsOk Tryz.prog C_i_Live from trivial)) hp (all_of (by kernel_rfl : loopsOf (nthLoop Tryz.f259 0) = []) trivial) (by kernel_rfl) lp_i_Live_3
theorem e_i_Live : ∀ d, pcall ⟨lookT tys, ctrOf C_i_Live, kindOf C_i_Live, 3, 4⟩ 0 Q_i_Live Tryz.f259 .plain (mkA P_i_Live d) = (T_i_Live d.1).run fun r => some (O_i_Live r) := fun d => by kernel_rfl
theorem fn_i_Live : Fn Tryz.prog 259 .plain F_i_Live := fn_of (cfgOk_of mixed tys_ok (show FnsOk Tryz.prog C_i_Live from trivial)) Tryz.func259 (by kernel_rfl) (by kernel_rfl) (fun cx b hp hb => all_of (by kernel_rfl : loopsOf (Tryz.f259.body.getD .skip) = [nthLoop Tryz.f259 0]) ⟨lo_i_Live_3 cx hp, trivial⟩ b hb) (R := (YI)) (T := fun (d : aden P_i_Live) => T_i_Live d.1) e_i_Live
def F_i_isNonce : Fun1 := funV [(false, [.sl 5 [.int .u8]])] (fun d => (T_i_isNonce d.1).val) fun r => ([rv (false, [.bool]) r], [])
theorem fn_i_isNonce : Fn Tryz.prog 208 .plain F_i_isNonce := mkF [] trivial Tryz.func208 (by kernel_rfl) (by kernel_rfl) (by kernel_rfl) 0 fun d => by kernel_rfl
def F_bytes_Equal : Fun1 := funV [(false, [.sl 5 [.int .u8]]), (false, [.sl 5 [.int .u8]])] (fun d => (T_bytes_Equal d.1 d.2.1).val) fun r => ([rv (false, [.bool]) r], [])
theorem fn_bytes_Equal : Fn Tryz.prog 169 .plain F_bytes_Equal := mkF [] trivial Tryz.func169 (by kernel_rfl) (by kernel_rfl) (by kernel_rfl) 0 fun d => by kernel_rfl
def P_i_sameInts : List (Bool × List Sh) := [(false, [.sl 3 [.int .i64]]), (false, [.sl 3 [.int .i64]])]
def O_i_sameInts (r : (Bool × Unit)) : List RV × List RV := ([rv (false, [.bool]) r], [])
def C_i_sameInts : Fns := []
def F_i_sameInts : Fun1 := funV P_i_sameInts (fun d => (T_i_sameInts d.1 d.2.1).val) O_i_sameInts
def K_i_sameInts_4 : Sk := ⟨[(1, .v false [(.sl 3 [.int .i64], .ro)]), (12, .v false [(.sl 3 [.int .i64], .ro)]), (13, .v false [(.int .i64, .nil)]), (14, .v false [(.int .i64, .nil)])], [], []⟩
def X_i_sameInts_4 : List (Ex × Sk) := [(.ret, ⟨[(4, .v false [(.bool, .nil)])], [], []⟩), ((.exit 0), ⟨[], [], []⟩)]
def Q_i_sameInts : Loops := fun i st => cond (Nat.beq i 4) (lam K_i_sameInts_4 5000000 X_i_sameInts_4 B_i_sameInts_4 st) <| .fail
theorem lp_i_sameInts_4 : ∀ d, bod ⟨lookT tys, ctrOf C_i_sameInts, kindOf C_i_sameInts, 3, 4⟩ 0 Tryz.f310.ntmps Q_i_sameInts (nthLoop Tryz.f310 0) K_i_sameInts_4 5000000 X_i_sameInts_4 d = B_i_sameInts_4 d := fun d => by kernel_rfl
theorem lo_i_sameInts_4 (cx : Cx) (hp : cx.pin.length ≤ 0) : LoopOk Tryz.prog cx Tryz.f310.ntmps Q_i_sameInts (nthLoop Tryz.f310 0) := loop_of (cfgOk_of mixed tys_ok (show FnsOk Tryz.prog C_i_sameInts from trivial)) hp (all_of (by kernel_rfl : loopsOf (nthLoop Tryz.f310 0) = []) trivial) (by kernel_rfl) lp_i_sameInts_4
theorem e_i_sameInts : ∀ d, pcall ⟨lookT tys, ctrOf C_i_sameInts, kindOf C_i_sameInts, 3, 4⟩ 0 Q_i_sameInts Tryz.f310 .plain (mkA P_i_sameInts d) = (T_i_sameInts d.1 d.2.1).run fun r => some (O_i_sameInts r) := fun d => by kernel_rfl
theorem fn_i_sameInts : Fn Tryz.prog 310 .plain F_i_sameInts := fn_of (cfgOk_of mixed tys_ok (show FnsOk Tryz.prog C_i_sameInts from trivial)) Tryz.func310 (by kernel_rfl) (by kernel_rfl) (fun cx b hp hb => all_of (by kernel_rfl : loopsOf (Tryz.f310.body.getD .skip) = [nthLoop Tryz.f310 0]) ⟨lo_i_sameInts_4 cx hp, trivial⟩ b hb) (R := (Bool × Unit)) (T := fun (d : aden P_i_sameInts) => T_i_sameInts d.1 d.2.1) e_i_sameInts
def F_i_sameEp : Fun1 := funV [(true, h_5), (true, h_5)] (fun d => (T_i_sameEp d.1 d.2.1).val) fun r => ([rv (false, [.bool]) r], [])
theorem fn_i_sameEp : Fn Tryz.prog 272 .plain F_i_sameEp := mkF [(169, .plain, F_bytes_Equal), (310, .plain, F_i_sameInts)] ⟨fn_bytes_Equal, fn_i_sameInts, trivial⟩ Tryz.func272 (by kernel_rfl) (by kernel_rfl) (by kernel_rfl) 0 fun d => by kernel_rfl
def F_i_isZeroChan : Fun1 := funV [(true, h_11)] (fun d => (T_i_isZeroChan d.1).val) fun r => ([rv (false, [.bool]) r], [])
theorem fn_i_isZeroChan : Fn Tryz.prog 207 .plain F_i_isZeroChan := mkF [(272, .plain, F_i_sameEp)] ⟨fn_i_sameEp, trivial⟩ Tryz.func207 (by kernel_rfl) (by kernel_rfl) (by kernel_rfl) 0 fun d => by kernel_rfl
def F_i_isRole : Fun1 := funV [(false, [.int .i64])] (fun d => (T_i_isRole d.1).val) fun r => ([rv (false, [.bool]) r], [])
theorem fn_i_isRole : Fn Tryz.prog 273 .plain F_i_isRole := mkF [] trivial Tryz.func273 (by kernel_rfl) (by kernel_rfl) (by kernel_rfl) 0 fun d => by kernel_rfl
def P_i_areWords : List (Bool × List Sh) := [(false, [.sl 3 [.int .i64]]), (false, [.int .i64])]
def O_i_areWords (r : (Bool × Unit)) : List RV × List RV := ([rv (false, [.bool]) r], [])
def C_i_areWords : Fns := [(109, .plain, F_i_within)]
def F_i_areWords : Fun1 := funV P_i_areWords (fun d => (T_i_areWords d.1 d.2.1).val) O_i_areWords
def K_i_areWords_2 : Sk := ⟨[(0, .v false [(.sl 3 [.int .i64], .ro)]), (1, .v false [(.int .i64, .nil)]), (7, .v false [(.sl 3 [.int .i64], .ro)]), (8, .v false [(.int .i64, .nil)]), (9, .v false [(.int .i64, .nil)])], [], []⟩
def X_i_areWords_2 : List (Ex × Sk) := [(.ret, ⟨[(4, .v false [(.bool, .nil)])], [], []⟩), ((.exit 0), ⟨[(0, .v false [(.sl 3 [.int .i64], .ro)]), (1, .v false [(.int .i64, .nil)])], [], []⟩)]
def Q_i_areWords : Loops := fun i st => cond (Nat.beq i 2) (lam K_i_areWords_2 3000000 X_i_areWords_2 B_i_areWords_2 st) <| .fail
theorem lp_i_areWords_2 : ∀ d, bod ⟨lookT tys, ctrOf C_i_areWords, kindOf C_i_areWords, 3, 4⟩ 0 Tryz.f327.ntmps Q_i_areWords (nthLoop Tryz.f327 0) K_i_areWords_2 3000000 X_i_areWords_2 d = B_i_areWords_2 d := fun d => by kernel_rfl
theorem lo_i_areWords_2 (cx : Cx) (hp : cx.pin.length ≤ 0) : LoopOk Tryz.prog cx Tryz.f327.ntmps Q_i_areWords (nthLoop Tryz.f327 0) := loop_of (cfgOk_of mixed tys_ok (show FnsOk Tryz.prog C_i_areWords from ⟨fn_i_within, trivial⟩)) hp (all_of (by kernel_rfl : loopsOf (nthLoop Tryz.f327 0) = []) trivial) (by kernel_rfl) lp_i_areWords_2
theorem e_i_areWords : ∀ d, pcall ⟨lookT tys, ctrOf C_i_areWords, kindOf C_i_areWords, 3, 4⟩ 0 Q_i_areWords Tryz.f327 .plain (mkA P_i_areWords d) = (T_i_areWords d.1 d.2.1).run fun r => some (O_i_areWords r) := fun d => by kernel_rfl
theorem fn_i_areWords : Fn Tryz.prog 327 .plain F_i_areWords := fn_of (cfgOk_of mixed tys_ok (show FnsOk Tryz.prog C_i_areWords from ⟨fn_i_within, trivial⟩)) Tryz.func327 (by kernel_rfl) (by kernel_rfl) (fun cx b hp hb => all_of (by kernel_rfl : loopsOf (Tryz.f327.body.getD .skip) = [nthLoop Tryz.f327 0]) ⟨lo_i_areWords_2 cx hp, trivial⟩ b hb) (R := (Bool × Unit)) (T := fun (d : aden P_i_areWords) => T_i_areWords d.1 d.2.1) e_i_areWords
def F_i_hasBit : Fun1 := funV [(true, [.int .i64, .sl 3 [.int .i64]]), (false, [.int .i64])] (fun d => (T_i_hasBit d.1 d.2.1).val) fun r => ([rv (false, [.bool]) r], [])
theorem fn_i_hasBit : Fn Tryz.prog 328 .plain F_i_hasBit := mkF [] trivial Tryz.func328 (by kernel_rfl) (by kernel_rfl) (by kernel_rfl) 0 fun d => by kernel_rfl
def P_i_WinOk : List (Bool × List Sh) := [(true, [.int .i64, .sl 3 [.int .i64]])]
def O_i_WinOk (r : (Bool × Unit)) : List RV × List RV := ([rv (false, [.bool]) r], [])
def C_i_WinOk : Fns := [(109, .plain, F_i_within), (327, .plain, F_i_areWords), (328, .plain, F_i_hasBit)]
def F_i_WinOk : Fun1 := funV P_i_WinOk (fun d => (T_i_WinOk d.1).val) O_i_WinOk
def K_i_WinOk_4 : Sk := ⟨[(1, .box 1 0), (3, .v false [(.int .i64, .nil)])], [(1, [(.int .i64, .nil), (.sl 3 [.int .i64], .ro)])], []⟩
def X_i_WinOk_4 : List (Ex × Sk) := [(.ret, ⟨[(2, .v false [(.bool, .nil)])], [], []⟩), ((.exit 0), ⟨[(1, .box 1 0)], [(1, [(.int .i64, .nil), (.sl 3 [.int .i64], .ro)])], []⟩)]
def Q_i_WinOk : Loops := fun i st => cond (Nat.beq i 4) (lam K_i_WinOk_4 5000000 X_i_WinOk_4 B_i_WinOk_4 st) <| .fail
theorem lp_i_WinOk_4 : ∀ d, bod ⟨lookT tys, ctrOf C_i_WinOk, kindOf C_i_WinOk, 3, 4⟩ 0 Tryz.f311.ntmps Q_i_WinOk (nthLoop Tryz.f311 0) K_i_WinOk_4 5000000 X_i_WinOk_4 d = B_i_WinOk_4 d := fun d => by kernel_rfl
theorem lo_i_WinOk_4 (cx : Cx) (hp : cx.pin.length ≤ 0) : LoopOk Tryz.prog cx Tryz.f311.ntmps Q_i_WinOk (nthLoop Tryz.f311 0) := loop_of (cfgOk_of mixed tys_ok (show FnsOk Tryz.prog C_i_WinOk from ⟨fn_i_within, fn_i_areWords, fn_i_hasBit, trivial⟩)) hp (all_of (by kernel_rfl : loopsOf (nthLoop Tryz.f311 0) = []) trivial) (by kernel_rfl) lp_i_WinOk_4
theorem e_i_WinOk : ∀ d, pcall ⟨lookT tys, ctrOf C_i_WinOk, kindOf C_i_WinOk, 3, 4⟩ 0 Q_i_WinOk Tryz.f311 .plain (mkA P_i_WinOk d) = (T_i_WinOk d.1).run fun r => some (O_i_WinOk r) := fun d => by kernel_rfl
theorem fn_i_WinOk : Fn Tryz.prog 311 .plain F_i_WinOk := fn_of (cfgOk_of mixed tys_ok (show FnsOk Tryz.prog C_i_WinOk from ⟨fn_i_within, fn_i_areWords, fn_i_hasBit, trivial⟩)) Tryz.func311 (by kernel_rfl) (by kernel_rfl) (fun cx b hp hb => all_of (by kernel_rfl : loopsOf (Tryz.f311.body.getD .skip) = [nthLoop Tryz.f311 0]) ⟨lo_i_WinOk_4 cx hp, trivial⟩ b hb) (R := (Bool × Unit)) (T := fun (d : aden P_i_WinOk) => T_i_WinOk d.1) e_i_WinOk
def F_i_EpOk : Fun1 := funV [(true, h_5)] (fun d => (T_i_EpOk d.1).val) fun r => ([rv (false, [.bool]) r], [])
theorem fn_i_EpOk : Fn Tryz.prog 274 .plain F_i_EpOk := mkF [(109, .plain, F_i_within), (311, .plain, F_i_WinOk)] ⟨fn_i_within, fn_i_WinOk, trivial⟩ Tryz.func274 (by kernel_rfl) (by kernel_rfl) (by kernel_rfl) 0 fun d => by kernel_rfl
def F_i_oldOk : Fun1 := funV [(true, h_11)] (fun d => (T_i_oldOk d.1).val) fun r => ([rv (false, [.bool]) r], [])
theorem fn_i_oldOk : Fn Tryz.prog 275 .plain F_i_oldOk := mkF [(272, .plain, F_i_sameEp), (274, .plain, F_i_EpOk), (109, .plain, F_i_within)] ⟨fn_i_sameEp, fn_i_EpOk, fn_i_within, trivial⟩ Tryz.func275 (by kernel_rfl) (by kernel_rfl) (by kernel_rfl) 0 fun d => by kernel_rfl
def F_i_ChanOk : Fun1 := funV [(true, h_11)] (fun d => (T_i_ChanOk d.1).val) fun r => ([rv (false, [.bool]) r], [])
theorem fn_i_ChanOk : Fn Tryz.prog 211 .plain F_i_ChanOk := mkF [(273, .plain, F_i_isRole), (208, .plain, F_i_isNonce), (274, .plain, F_i_EpOk), (275, .plain, F_i_oldOk)] ⟨fn_i_isRole, fn_i_isNonce, fn_i_EpOk, fn_i_oldOk, trivial⟩ Tryz.func211 (by kernel_rfl) (by kernel_rfl) (by kernel_rfl) 0 fun d => by kernel_rfl
def F_i_AddrOk : Fun1 := funV [(true, [.int .i64, .int .i64])] (fun d => (T_i_AddrOk d.1).val) fun r => ([rv (false, [.bool]) r], [])
theorem fn_i_AddrOk : Fn Tryz.prog 205 .plain F_i_AddrOk := mkF [(109, .plain, F_i_within)] ⟨fn_i_within, trivial⟩ Tryz.func205 (by kernel_rfl) (by kernel_rfl) (by kernel_rfl) 0 fun d => by kernel_rfl
def P_i_PathsOk : List (Bool × List Sh) := [(true, h_7)]
def O_i_PathsOk (r : (Bool × Unit)) : List RV × List RV := ([rv (false, [.bool]) r], [])
def C_i_PathsOk : Fns := [(205, .plain, F_i_AddrOk), (208, .plain, F_i_isNonce), (109, .plain, F_i_within)]
def F_i_PathsOk : Fun1 := funV P_i_PathsOk (fun d => (T_i_PathsOk d.1).val) O_i_PathsOk
def K_i_PathsOk_4 : Sk := ⟨[(1, .box 1 0), (18, .v false [(.sl 274 h_4, .ro)]), (19, .v false [(.int .i64, .nil)]), (20, .v false [(.int .i64, .nil)])], [(1, [(.int .i64, .nil), (.int .i64, .nil), (.sl 274 h_4, .ro)])], []⟩
def X_i_PathsOk_4 : List (Ex × Sk) := [(.ret, ⟨[(2, .v false [(.bool, .nil)])], [], []⟩), ((.exit 0), ⟨[], [], []⟩)]
def K_i_PathsOk_9 : Sk := ⟨[(1, .box 1 0), (4, .box 4 0), (18, .v false [(.sl 274 h_4, .ro)]), (19, .v false [(.int .i64, .nil)]), (20, .v false [(.int .i64, .nil)]), (51, .v false [(.sl 274 h_4, .ro)]), (52, .v false [(.int .i64, .nil)]), (53, .v false [(.int .i64, .nil)])], [(1, [(.int .i64, .nil), (.int .i64, .nil), (.sl 274 h_4, .ro)]), (4, [(.int .i64, .nil), (.int .i64, .nil), (.sl 5 [.int .u8], .ro), (.int .i64, .nil)])], []⟩
def X_i_PathsOk_9 : List (Ex × Sk) := [(.ret, ⟨[(2, .v false [(.bool, .nil)])], [], []⟩), ((.exit 2), ⟨[(1, .box 1 0), (18, .v false [(.sl 274 h_4, .ro)]), (19, .v false [(.int .i64, .nil)]), (20, .v false [(.int .i64, .nil)])], [(1, [(.int .i64, .nil), (.int .i64, .nil), (.sl 274 h_4, .ro)])], []⟩)]
def Q_i_PathsOk : Loops := fun i st => cond (Nat.beq i 9) (lam K_i_PathsOk_9 10000000 X_i_PathsOk_9 B_i_PathsOk_9 st) <| cond (Nat.beq i 4) (lam K_i_PathsOk_4 5000000 X_i_PathsOk_4 B_i_PathsOk_4 st) <| .fail
theorem lp_i_PathsOk_9 : ∀ d, bod ⟨lookT tys, ctrOf C_i_PathsOk, kindOf C_i_PathsOk, 3, 4⟩ 0 Tryz.f224.ntmps Q_i_PathsOk (nthLoop Tryz.f224 1) K_i_PathsOk_9 10000000 X_i_PathsOk_9 d = B_i_PathsOk_9 d := fun d => by kernel_rfl
theorem lo_i_PathsOk_9 (cx : Cx) (hp : cx.pin.length ≤ 0) : LoopOk Tryz.prog cx Tryz.f224.ntmps Q_i_PathsOk (nthLoop Tryz.f224 1) := loop_of (cfgOk_of mixed tys_ok (show FnsOk Tryz.prog C_i_PathsOk from ⟨fn_i_AddrOk, fn_i_isNonce, fn_i_within, trivial⟩)) hp (all_of (by kernel_rfl : loopsOf (nthLoop Tryz.f224 1) = []) trivial) (by kernel_rfl) lp_i_PathsOk_9
theorem lp_i_PathsOk_4 : ∀ d, bod ⟨lookT tys, ctrOf C_i_PathsOk, kindOf C_i_PathsOk, 3, 4⟩ 0 Tryz.f224.ntmps Q_i_PathsOk (nthLoop Tryz.f224 0) K_i_PathsOk_4 5000000 X_i_PathsOk_4 d = B_i_PathsOk_4 d := fun d => by kernel_rfl
theorem lo_i_PathsOk_4 (cx : Cx) (hp : cx.pin.length ≤ 0) : LoopOk Tryz.prog cx Tryz.f224.ntmps Q_i_PathsOk (nthLoop Tryz.f224 0) := loop_of (cfgOk_of mixed tys_ok (show FnsOk Tryz.prog C_i_PathsOk from ⟨fn_i_AddrOk, fn_i_isNonce, fn_i_within, trivial⟩)) hp (all_of (by kernel_rfl : loopsOf (nthLoop Tryz.f224 0) = [nthLoop Tryz.f224 1]) ⟨lo_i_PathsOk_9 cx hp, trivial⟩) (by kernel_rfl) lp_i_PathsOk_4
theorem e_i_PathsOk : ∀ d, pcall ⟨lookT tys, ctrOf C_i_PathsOk, kindOf C_i_PathsOk, 3, 4⟩ 0 Q_i_PathsOk Tryz.f224 .plain (mkA P_i_PathsOk d) = (T_i_PathsOk d.1).run fun r => some (O_i_PathsOk r) := fun d => by kernel_rfl
theorem fn_i_PathsOk : Fn Tryz.prog 224 .plain F_i_PathsOk := fn_of (cfgOk_of mixed tys_ok (show FnsOk Tryz.prog C_i_PathsOk from ⟨fn_i_AddrOk, fn_i_isNonce, fn_i_within, trivial⟩)) Tryz.func224 (by kernel_rfl) (by kernel_rfl) (fun cx b hp hb => all_of (by kernel_rfl : loopsOf (Tryz.f224.body.getD .skip) = [nthLoop Tryz.f224 0]) ⟨lo_i_PathsOk_4 cx hp, trivial⟩ b hb) (R := (Bool × Unit)) (T := fun (d : aden P_i_PathsOk) => T_i_PathsOk d.1) e_i_PathsOk
def F_i_SessOk : Fun1 := funV [(true, h_13)] (fun d => (T_i_SessOk d.1).val) fun r => ([rv (false, [.bool]) r], [])
theorem fn_i_SessOk : Fn Tryz.prog 124 .plain F_i_SessOk := mkF [(109, .plain, F_i_within), (208, .plain, F_i_isNonce), (207, .plain, F_i_isZeroChan), (211, .plain, F_i_ChanOk), (169, .plain, F_bytes_Equal), (224, .plain, F_i_PathsOk)] ⟨fn_i_within, fn_i_isNonce, fn_i_isZeroChan, fn_i_ChanOk, fn_bytes_Equal, fn_i_PathsOk, trivial⟩ Tryz.func124 (by kernel_rfl) (by kernel_rfl) (by kernel_rfl) 0 fun d => by kernel_rfl
def P_i_FindSn : List (Bool × List Sh) := [(true, [.int .i64, .sl 100 h_13]), (false, [.sl 5 [.int .u8]])]
def O_i_FindSn (r : (YI)) : List RV × List RV := ([rv (false, [.int .i64]) r], [])
def C_i_FindSn : Fns := [(169, .plain, F_bytes_Equal)]
def F_i_FindSn : Fun1 := funV P_i_FindSn (fun d => (T_i_FindSn d.1 d.2.1).val) O_i_FindSn
def K_i_FindSn_2 : Sk := ⟨[(1, .v false [(.sl 5 [.int .u8], .ro)]), (8, .v false [(.sl 100 h_13, .ro)]), (9, .v false [(.int .i64, .nil)]), (10, .v false [(.int .i64, .nil)])], [], []⟩
def X_i_FindSn_2 : List (Ex × Sk) := [(.ret, ⟨[(4, .v false [(.int .i64, .nil)])], [], []⟩), ((.exit 0), ⟨[], [], []⟩)]
def Q_i_FindSn : Loops := fun i st => cond (Nat.beq i 2) (lam K_i_FindSn_2 3000000 X_i_FindSn_2 B_i_FindSn_2 st) <| .fail
theorem lp_i_FindSn_2 : ∀ d, bod ⟨lookT tys, ctrOf C_i_FindSn, kindOf C_i_FindSn, 3, 4⟩ 0 Tryz.f260.ntmps Q_i_FindSn (nthLoop Tryz.f260 0) K_i_FindSn_2 3000000 X_i_FindSn_2 d = B_i_FindSn_2 d := fun d => by kernel_rfl
theorem lo_i_FindSn_2 (cx : Cx) (hp : cx.pin.length ≤ 0) : LoopOk Tryz.prog cx Tryz.f260.ntmps Q_i_FindSn (nthLoop Tryz.f260 0) := loop_of (cfgOk_of mixed tys_ok (show FnsOk Tryz.prog C_i_FindSn from ⟨fn_bytes_Equal, trivial⟩)) hp (all_of (by kernel_rfl : loopsOf (nthLoop Tryz.f260 0) = []) trivial) (by kernel_rfl) lp_i_FindSn_2
theorem e_i_FindSn : ∀ d, pcall ⟨lookT tys, ctrOf C_i_FindSn, kindOf C_i_FindSn, 3, 4⟩ 0 Q_i_FindSn Tryz.f260 .plain (mkA P_i_FindSn d) = (T_i_FindSn d.1 d.2.1).run fun r => some (O_i_FindSn r) := fun d => by kernel_rfl
theorem fn_i_FindSn : Fn Tryz.prog 260 .plain F_i_FindSn := fn_of (cfgOk_of mixed tys_ok (show FnsOk Tryz.prog C_i_FindSn from ⟨fn_bytes_Equal, trivial⟩)) Tryz.func260 (by kernel_rfl) (by kernel_rfl) (fun cx b hp hb => all_of (by kernel_rfl : loopsOf (Tryz.f260.body.getD .skip) = [nthLoop Tryz.f260 0]) ⟨lo_i_FindSn_2 cx hp, trivial⟩ b hb) (R := (YI)) (T := fun (d : aden P_i_FindSn) => T_i_FindSn d.1 d.2.1) e_i_FindSn
def P_i_TabOk : List (Bool × List Sh) := [(true, [.int .i64, .sl 100 h_13])]
def O_i_TabOk (r : (Bool × Unit)) : List RV × List RV := ([rv (false, [.bool]) r], [])
def C_i_TabOk : Fns := [(109, .plain, F_i_within), (259, .plain, F_i_Live), (124, .plain, F_i_SessOk), (260, .plain, F_i_FindSn)]
def F_i_TabOk : Fun1 := funV P_i_TabOk (fun d => (T_i_TabOk d.1).val) O_i_TabOk
def K_i_TabOk_4 : Sk := ⟨[(1, .box 1 0), (23, .v false [(.sl 100 h_13, .ro)]), (24, .v false [(.int .i64, .nil)]), (25, .v false [(.int .i64, .nil)])], [(1, [(.int .i64, .nil), (.sl 100 h_13, .ro)])], []⟩
def X_i_TabOk_4 : List (Ex × Sk) := [(.ret, ⟨[(2, .v false [(.bool, .nil)])], [], []⟩), ((.exit 0), ⟨[], [], []⟩)]
def Q_i_TabOk : Loops := fun i st => cond (Nat.beq i 4) (lam K_i_TabOk_4 5000000 X_i_TabOk_4 B_i_TabOk_4 st) <| .fail
theorem lp_i_TabOk_4 : ∀ d, bod ⟨lookT tys, ctrOf C_i_TabOk, kindOf C_i_TabOk, 3, 4⟩ 0 Tryz.f188.ntmps Q_i_TabOk (nthLoop Tryz.f188 0) K_i_TabOk_4 5000000 X_i_TabOk_4 d = B_i_TabOk_4 d := fun d => by kernel_rfl
theorem lo_i_TabOk_4 (cx : Cx) (hp : cx.pin.length ≤ 0) : LoopOk Tryz.prog cx Tryz.f188.ntmps Q_i_TabOk (nthLoop Tryz.f188 0) := loop_of (cfgOk_of mixed tys_ok (show FnsOk Tryz.prog C_i_TabOk from ⟨fn_i_within, fn_i_Live, fn_i_SessOk, fn_i_FindSn, trivial⟩)) hp (all_of (by kernel_rfl : loopsOf (nthLoop Tryz.f188 0) = []) trivial) (by kernel_rfl) lp_i_TabOk_4
theorem e_i_TabOk : ∀ d, pcall ⟨lookT tys, ctrOf C_i_TabOk, kindOf C_i_TabOk, 3, 4⟩ 0 Q_i_TabOk Tryz.f188 .plain (mkA P_i_TabOk d) = (T_i_TabOk d.1).run fun r => some (O_i_TabOk r) := fun d => by kernel_rfl
theorem fn_i_TabOk : Fn Tryz.prog 188 .plain F_i_TabOk := fn_of (cfgOk_of mixed tys_ok (show FnsOk Tryz.prog C_i_TabOk from ⟨fn_i_within, fn_i_Live, fn_i_SessOk, fn_i_FindSn, trivial⟩)) Tryz.func188 (by kernel_rfl) (by kernel_rfl) (fun cx b hp hb => all_of (by kernel_rfl : loopsOf (Tryz.f188.body.getD .skip) = [nthLoop Tryz.f188 0]) ⟨lo_i_TabOk_4 cx hp, trivial⟩ b hb) (R := (Bool × Unit)) (T := fun (d : aden P_i_TabOk) => T_i_TabOk d.1) e_i_TabOk
def P_i_creditAt : List (Bool × List Sh) := [(false, [.sl 218 h_2]), (true, [.int .i64, .int .i64])]
def O_i_creditAt (r : (YI)) : List RV × List RV := ([rv (false, [.int .i64]) r], [])
def C_i_creditAt : Fns := []
def F_i_creditAt : Fun1 := funV P_i_creditAt (fun d => (T_i_creditAt d.1 d.2.1).val) O_i_creditAt
def K_i_creditAt_2 : Sk := ⟨[(3, .box 3 0), (7, .v false [(.sl 218 h_2, .ro)]), (8, .v false [(.int .i64, .nil)]), (9, .v false [(.int .i64, .nil)])], [(3, [(.int .i64, .nil), (.int .i64, .nil)])], []⟩
def X_i_creditAt_2 : List (Ex × Sk) := [(.ret, ⟨[(4, .v false [(.int .i64, .nil)])], [], []⟩), ((.exit 0), ⟨[], [], []⟩)]
def Q_i_creditAt : Loops := fun i st => cond (Nat.beq i 2) (lam K_i_creditAt_2 3000000 X_i_creditAt_2 B_i_creditAt_2 st) <| .fail
theorem lp_i_creditAt_2 : ∀ d, bod ⟨lookT tys, ctrOf C_i_creditAt, kindOf C_i_creditAt, 3, 4⟩ 0 Tryz.f261.ntmps Q_i_creditAt (nthLoop Tryz.f261 0) K_i_creditAt_2 3000000 X_i_creditAt_2 d = B_i_creditAt_2 d := fun d => by kernel_rfl
theorem lo_i_creditAt_2 (cx : Cx) (hp : cx.pin.length ≤ 0) : LoopOk Tryz.prog cx Tryz.f261.ntmps Q_i_creditAt (nthLoop Tryz.f261 0) := loop_of (cfgOk_of mixed tys_ok (show FnsOk Tryz.prog C_i_creditAt from trivial)) hp (all_of (by kernel_rfl : loopsOf (nthLoop Tryz.f261 0) = []) trivial) (by kernel_rfl) lp_i_creditAt_2
theorem e_i_creditAt : ∀ d, pcall ⟨lookT tys, ctrOf C_i_creditAt, kindOf C_i_creditAt, 3, 4⟩ 0 Q_i_creditAt Tryz.f261 .plain (mkA P_i_creditAt d) = (T_i_creditAt d.1 d.2.1).run fun r => some (O_i_creditAt r) := fun d => by kernel_rfl
theorem fn_i_creditAt : Fn Tryz.prog 261 .plain F_i_creditAt := fn_of (cfgOk_of mixed tys_ok (show FnsOk Tryz.prog C_i_creditAt from trivial)) Tryz.func261 (by kernel_rfl) (by kernel_rfl) (fun cx b hp hb => all_of (by kernel_rfl : loopsOf (Tryz.f261.body.getD .skip) = [nthLoop Tryz.f261 0]) ⟨lo_i_creditAt_2 cx hp, trivial⟩ b hb) (R := (YI)) (T := fun (d : aden P_i_creditAt) => T_i_creditAt d.1 d.2.1) e_i_creditAt
def P_i_CreditsOk : List (Bool × List Sh) := [(false, [.sl 218 h_2])]
def O_i_CreditsOk (r : (Bool × Unit)) : List RV × List RV := ([rv (false, [.bool]) r], [])
def C_i_CreditsOk : Fns := [(205, .plain, F_i_AddrOk), (109, .plain, F_i_within), (261, .plain, F_i_creditAt)]
def F_i_CreditsOk : Fun1 := funV P_i_CreditsOk (fun d => (T_i_CreditsOk d.1).val) O_i_CreditsOk
def K_i_CreditsOk_4 : Sk := ⟨[(0, .v false [(.sl 218 h_2, .ro)]), (8, .v false [(.sl 218 h_2, .ro)]), (9, .v false [(.int .i64, .nil)]), (10, .v false [(.int .i64, .nil)])], [], []⟩
def X_i_CreditsOk_4 : List (Ex × Sk) := [(.ret, ⟨[(2, .v false [(.bool, .nil)])], [], []⟩), ((.exit 0), ⟨[], [], []⟩)]
def Q_i_CreditsOk : Loops := fun i st => cond (Nat.beq i 4) (lam K_i_CreditsOk_4 5000000 X_i_CreditsOk_4 B_i_CreditsOk_4 st) <| .fail
theorem lp_i_CreditsOk_4 : ∀ d, bod ⟨lookT tys, ctrOf C_i_CreditsOk, kindOf C_i_CreditsOk, 3, 4⟩ 0 Tryz.f189.ntmps Q_i_CreditsOk (nthLoop Tryz.f189 0) K_i_CreditsOk_4 5000000 X_i_CreditsOk_4 d = B_i_CreditsOk_4 d := fun d => by kernel_rfl
theorem lo_i_CreditsOk_4 (cx : Cx) (hp : cx.pin.length ≤ 0) : LoopOk Tryz.prog cx Tryz.f189.ntmps Q_i_CreditsOk (nthLoop Tryz.f189 0) := loop_of (cfgOk_of mixed tys_ok (show FnsOk Tryz.prog C_i_CreditsOk from ⟨fn_i_AddrOk, fn_i_within, fn_i_creditAt, trivial⟩)) hp (all_of (by kernel_rfl : loopsOf (nthLoop Tryz.f189 0) = []) trivial) (by kernel_rfl) lp_i_CreditsOk_4
theorem e_i_CreditsOk : ∀ d, pcall ⟨lookT tys, ctrOf C_i_CreditsOk, kindOf C_i_CreditsOk, 3, 4⟩ 0 Q_i_CreditsOk Tryz.f189 .plain (mkA P_i_CreditsOk d) = (T_i_CreditsOk d.1).run fun r => some (O_i_CreditsOk r) := fun d => by kernel_rfl
theorem fn_i_CreditsOk : Fn Tryz.prog 189 .plain F_i_CreditsOk := fn_of (cfgOk_of mixed tys_ok (show FnsOk Tryz.prog C_i_CreditsOk from ⟨fn_i_AddrOk, fn_i_within, fn_i_creditAt, trivial⟩)) Tryz.func189 (by kernel_rfl) (by kernel_rfl) (fun cx b hp hb => all_of (by kernel_rfl : loopsOf (Tryz.f189.body.getD .skip) = [nthLoop Tryz.f189 0]) ⟨lo_i_CreditsOk_4 cx hp, trivial⟩ b hb) (R := (Bool × Unit)) (T := fun (d : aden P_i_CreditsOk) => T_i_CreditsOk d.1) e_i_CreditsOk
def F_i_PskOk : Fun1 := funV [(false, [.sl 5 [.int .u8]])] (fun d => (T_i_PskOk d.1).val) fun r => ([rv (false, [.bool]) r], [])
theorem fn_i_PskOk : Fn Tryz.prog 190 .plain F_i_PskOk := mkF [(109, .plain, F_i_within)] ⟨fn_i_within, trivial⟩ Tryz.func190 (by kernel_rfl) (by kernel_rfl) (by kernel_rfl) 0 fun d => by kernel_rfl
def P_i_ServerOk : List (Bool × List Sh) := [(true, h_15)]
def O_i_ServerOk (r : (Bool × Unit)) : List RV × List RV := ([rv (false, [.bool]) r], [])
def C_i_ServerOk : Fns := [(109, .plain, F_i_within), (186, .plain, F_i_JarOk), (187, .plain, F_i_DiceOk), (188, .plain, F_i_TabOk), (189, .plain, F_i_CreditsOk), (190, .plain, F_i_PskOk)]
def F_i_ServerOk : Fun1 := funV P_i_ServerOk (fun d => (T_i_ServerOk d.1).val) O_i_ServerOk
def K_i_ServerOk_10 : Sk := ⟨[(1, .box 1 0), (49, .v false [(.sl 100 h_13, .ro)]), (50, .v false [(.int .i64, .nil)]), (51, .v false [(.int .i64, .nil)])], [(1, [(.sl 23 [.sl 5 [.int .u8]], .ro), (.sl 5 [.int .u8], .ro), (.sl 5 [.int .u8], .ro), (.int .i64, .nil), (.int .i64, .nil), (.sl 100 h_13, .ro), (.sl 218 h_2, .ro)])], []⟩
def X_i_ServerOk_10 : List (Ex × Sk) := [(.ret, ⟨[(2, .v false [(.bool, .nil)])], [], []⟩), ((.exit 2), ⟨[], [], []⟩)]
def K_i_ServerOk_4 : Sk := ⟨[(1, .box 1 0), (37, .v false [(.sl 23 [.sl 5 [.int .u8]], .ro)]), (38, .v false [(.int .i64, .nil)]), (39, .v false [(.int .i64, .nil)])], [(1, [(.sl 23 [.sl 5 [.int .u8]], .ro), (.sl 5 [.int .u8], .ro), (.sl 5 [.int .u8], .ro), (.int .i64, .nil), (.int .i64, .nil), (.sl 100 h_13, .ro), (.sl 218 h_2, .ro)])], []⟩
def X_i_ServerOk_4 : List (Ex × Sk) := [(.ret, ⟨[(2, .v false [(.bool, .nil)])], [], []⟩), ((.exit 0), ⟨[(1, .box 1 0)], [(1, [(.sl 23 [.sl 5 [.int .u8]], .ro), (.sl 5 [.int .u8], .ro), (.sl 5 [.int .u8], .ro), (.int .i64, .nil), (.int .i64, .nil), (.sl 100 h_13, .ro), (.sl 218 h_2, .ro)])], []⟩)]
def Q_i_ServerOk : Loops := fun i st => cond (Nat.beq i 4) (lam K_i_ServerOk_4 5000000 X_i_ServerOk_4 B_i_ServerOk_4 st) <| cond (Nat.beq i 10) (lam K_i_ServerOk_10 11000000 X_i_ServerOk_10 B_i_ServerOk_10 st) <| .fail
theorem lp_i_ServerOk_4 : ∀ d, bod ⟨lookT tys, ctrOf C_i_ServerOk, kindOf C_i_ServerOk, 3, 4⟩ 0 Tryz.f77.ntmps Q_i_ServerOk (nthLoop Tryz.f77 0) K_i_ServerOk_4 5000000 X_i_ServerOk_4 d = B_i_ServerOk_4 d := fun d => by kernel_rfl
theorem lo_i_ServerOk_4 (cx : Cx) (hp : cx.pin.length ≤ 0) : LoopOk Tryz.prog cx Tryz.f77.ntmps Q_i_ServerOk (nthLoop Tryz.f77 0) := loop_of (cfgOk_of mixed tys_ok (show FnsOk Tryz.prog C_i_ServerOk from ⟨fn_i_within, fn_i_JarOk, fn_i_DiceOk, fn_i_TabOk, fn_i_CreditsOk, fn_i_PskOk, trivial⟩)) hp (all_of (by kernel_rfl : loopsOf (nthLoop Tryz.f77 0) = []) trivial) (by kernel_rfl) lp_i_ServerOk_4
theorem lp_i_ServerOk_10 : ∀ d, bod ⟨lookT tys, ctrOf C_i_ServerOk, kindOf C_i_ServerOk, 3, 4⟩ 0 Tryz.f77.ntmps Q_i_ServerOk (nthLoop Tryz.f77 1) K_i_ServerOk_10 11000000 X_i_ServerOk_10 d = B_i_ServerOk_10 d := fun d => by kernel_rfl
theorem lo_i_ServerOk_10 (cx : Cx) (hp : cx.pin.length ≤ 0) : LoopOk Tryz.prog cx Tryz.f77.ntmps Q_i_ServerOk (nthLoop Tryz.f77 1) := loop_of (cfgOk_of mixed tys_ok (show FnsOk Tryz.prog C_i_ServerOk from ⟨fn_i_within, fn_i_JarOk, fn_i_DiceOk, fn_i_TabOk, fn_i_CreditsOk, fn_i_PskOk, trivial⟩)) hp (all_of (by kernel_rfl : loopsOf (nthLoop Tryz.f77 1) = []) trivial) (by kernel_rfl) lp_i_ServerOk_10
theorem e_i_ServerOk : ∀ d, pcall ⟨lookT tys, ctrOf C_i_ServerOk, kindOf C_i_ServerOk, 3, 4⟩ 0 Q_i_ServerOk Tryz.f77 .plain (mkA P_i_ServerOk d) = (T_i_ServerOk d.1).run fun r => some (O_i_ServerOk r) := fun d => by kernel_rfl
theorem fn_i_ServerOk : Fn Tryz.prog 77 .plain F_i_ServerOk := fn_of (cfgOk_of mixed tys_ok (show FnsOk Tryz.prog C_i_ServerOk from ⟨fn_i_within, fn_i_JarOk, fn_i_DiceOk, fn_i_TabOk, fn_i_CreditsOk, fn_i_PskOk, trivial⟩)) Tryz.func77 (by kernel_rfl) (by kernel_rfl) (fun cx b hp hb => all_of (by kernel_rfl : loopsOf (Tryz.f77.body.getD .skip) = [nthLoop Tryz.f77 0, nthLoop Tryz.f77 1]) ⟨lo_i_ServerOk_4 cx hp, lo_i_ServerOk_10 cx hp, trivial⟩ b hb) (R := (Bool × Unit)) (T := fun (d : aden P_i_ServerOk) => T_i_ServerOk d.1) e_i_ServerOk
def F_i_Sealed : Fun1 := funV [(false, [.int .i64])] (fun d => (T_i_Sealed d.1).val) fun r => ([rv (false, [.bool]) r], [])
theorem fn_i_Sealed : Fn Tryz.prog 171 .plain F_i_Sealed := mkF [(109, .plain, F_i_within)] ⟨fn_i_within, trivial⟩ Tryz.func171 (by kernel_rfl) (by kernel_rfl) (by kernel_rfl) 0 fun d => by kernel_rfl
def F_i_bodyOk : Fun1 := funV [(false, [.int .i64]), (false, [.int .i64])] (fun d => (T_i_bodyOk d.1 d.2.1).val) fun r => ([rv (false, [.bool]) r], [])
theorem fn_i_bodyOk : Fn Tryz.prog 248 .plain F_i_bodyOk := mkF [] trivial Tryz.func248 (by kernel_rfl) (by kernel_rfl) (by kernel_rfl) 0 fun d => by kernel_rfl
def F_i_sameFrame : Fun1 := funV [(true, h_9), (true, h_9)] (fun d => (T_i_sameFrame d.1 d.2.1).val) fun r => ([rv (false, [.bool]) r], [])
theorem fn_i_sameFrame : Fn Tryz.prog 206 .plain F_i_sameFrame := mkF [(169, .plain, F_bytes_Equal)] ⟨fn_bytes_Equal, trivial⟩ Tryz.func206 (by kernel_rfl) (by kernel_rfl) (by kernel_rfl) 0 fun d => by kernel_rfl
def F_i_FrameOk : Fun1 := funV [(true, h_9)] (fun d => (T_i_FrameOk d.1).val) fun r => ([rv (false, [.bool]) r], [])
theorem fn_i_FrameOk : Fn Tryz.prog 168 .plain F_i_FrameOk := mkF [(109, .plain, F_i_within), (208, .plain, F_i_isNonce), (171, .plain, F_i_Sealed), (248, .plain, F_i_bodyOk), (206, .plain, F_i_sameFrame)] ⟨fn_i_within, fn_i_isNonce, fn_i_Sealed, fn_i_bodyOk, fn_i_sameFrame, trivial⟩ Tryz.func168 (by kernel_rfl) (by kernel_rfl) (by kernel_rfl) 0 fun d => by kernel_rfl
def P_i_PutN : List (Bool × List Sh) := [(false, [.sl 5 [.int .u8]]), (false, [.int .i64]), (false, [.int .i64])]
def O_i_PutN (r : (YBs)) : List RV × List RV := ([rv (false, [.sl 5 [.int .u8]]) r], [])
def C_i_PutN : Fns := []
def F_i_PutN : Fun1 := funV P_i_PutN (fun d => (T_i_PutN d.1 d.2.1 d.2.2.1).val) O_i_PutN
def K_i_PutN_5 : Sk := ⟨[(1, .v false [(.int .i64, .nil)]), (7, .v false [(.sl 5 [.int .u8], (.own 6000000))]), (8, .v false [(.int .i64, .nil)])], [], [6000000]⟩
def X_i_PutN_5 : List (Ex × Sk) := [((.exit 0), ⟨[(7, .v false [(.sl 5 [.int .u8], (.own 6000000))])], [], [6000000]⟩)]
def Q_i_PutN : Loops := fun i st => cond (Nat.beq i 5) (lam K_i_PutN_5 6000000 X_i_PutN_5 B_i_PutN_5 st) <| .fail
theorem lp_i_PutN_5 : ∀ d, bod ⟨lookT tys, ctrOf C_i_PutN, kindOf C_i_PutN, 3, 4⟩ 0 Tryz.f286.ntmps Q_i_PutN (nthLoop Tryz.f286 0) K_i_PutN_5 6000000 X_i_PutN_5 d = B_i_PutN_5 d := fun d => by kernel_rfl
theorem lo_i_PutN_5 (cx : Cx) (hp : cx.pin.length ≤ 0) : LoopOk Tryz.prog cx Tryz.f286.ntmps Q_i_PutN (nthLoop Tryz.f286 0) := loop_of (cfgOk_of mixed tys_ok (show FnsOk Tryz.prog C_i_PutN from trivial)) hp (all_of (by kernel_rfl : loopsOf (nthLoop Tryz.f286 0) = []) trivial) (by kernel_rfl) lp_i_PutN_5
theorem e_i_PutN : ∀ d, pcall ⟨lookT tys, ctrOf C_i_PutN, kindOf C_i_PutN, 3, 4⟩ 0 Q_i_PutN Tryz.f286 .plain (mkA P_i_PutN d) = (T_i_PutN d.1 d.2.1 d.2.2.1).run fun r => some (O_i_PutN r) := fun d => by kernel_rfl
theorem fn_i_PutN : Fn Tryz.prog 286 .plain F_i_PutN := fn_of (cfgOk_of mixed tys_ok (show FnsOk Tryz.prog C_i_PutN from trivial)) Tryz.func286 (by kernel_rfl) (by kernel_rfl) (fun cx b hp hb => all_of (by kernel_rfl : loopsOf (Tryz.f286.body.getD .skip) = [nthLoop Tryz.f286 0]) ⟨lo_i_PutN_5 cx hp, trivial⟩ b hb) (R := (YBs)) (T := fun (d : aden P_i_PutN) => T_i_PutN d.1 d.2.1 d.2.2.1) e_i_PutN
def P_i_joined : List (Bool × List Sh) := [(false, [.sl 23 [.sl 5 [.int .u8]]])]
def O_i_joined (r : (YBs)) : List RV × List RV := ([rv (false, [.sl 5 [.int .u8]]) r], [])
def C_i_joined : Fns := []
def F_i_joined : Fun1 := funV P_i_joined (fun d => (T_i_joined d.1).val) O_i_joined
def K_i_joined_3 : Sk := ⟨[(3, .v false [(.sl 5 [.int .u8], (.own 4000000))]), (7, .v false [(.sl 23 [.sl 5 [.int .u8]], .ro)]), (8, .v false [(.int .i64, .nil)]), (9, .v false [(.int .i64, .nil)])], [], [4000000]⟩
def X_i_joined_3 : List (Ex × Sk) := [((.exit 0), ⟨[(3, .v false [(.sl 5 [.int .u8], (.own 4000000))])], [], [4000000]⟩)]
def Q_i_joined : Loops := fun i st => cond (Nat.beq i 3) (lam K_i_joined_3 4000000 X_i_joined_3 B_i_joined_3 st) <| .fail
theorem lp_i_joined_3 : ∀ d, bod ⟨lookT tys, ctrOf C_i_joined, kindOf C_i_joined, 3, 4⟩ 0 Tryz.f277.ntmps Q_i_joined (nthLoop Tryz.f277 0) K_i_joined_3 4000000 X_i_joined_3 d = B_i_joined_3 d := fun d => by kernel_rfl
theorem lo_i_joined_3 (cx : Cx) (hp : cx.pin.length ≤ 0) : LoopOk Tryz.prog cx Tryz.f277.ntmps Q_i_joined (nthLoop Tryz.f277 0) := loop_of (cfgOk_of mixed tys_ok (show FnsOk Tryz.prog C_i_joined from trivial)) hp (all_of (by kernel_rfl : loopsOf (nthLoop Tryz.f277 0) = []) trivial) (by kernel_rfl) lp_i_joined_3
theorem e_i_joined : ∀ d, pcall ⟨lookT tys, ctrOf C_i_joined, kindOf C_i_joined, 3, 4⟩ 0 Q_i_joined Tryz.f277 .plain (mkA P_i_joined d) = (T_i_joined d.1).run fun r => some (O_i_joined r) := fun d => by kernel_rfl
theorem fn_i_joined : Fn Tryz.prog 277 .plain F_i_joined := fn_of (cfgOk_of mixed tys_ok (show FnsOk Tryz.prog C_i_joined from trivial)) Tryz.func277 (by kernel_rfl) (by kernel_rfl) (fun cx b hp hb => all_of (by kernel_rfl : loopsOf (Tryz.f277.body.getD .skip) = [nthLoop Tryz.f277 0]) ⟨lo_i_joined_3 cx hp, trivial⟩ b hb) (R := (YBs)) (T := fun (d : aden P_i_joined) => T_i_joined d.1) e_i_joined
def F_i_HeadOf : Fun1 := funV [(false, [.int .i64]), (false, [.sl 5 [.int .u8]]), (false, [.int .i64]), (false, [.int .i64])] (fun d => (T_i_HeadOf d.1 d.2.1 d.2.2.1 d.2.2.2.1).val) fun r => ([rv (false, [.sl 5 [.int .u8]]) r], [])
theorem fn_i_HeadOf : Fn Tryz.prog 278 .plain F_i_HeadOf := mkF [(273, .plain, F_i_isRole), (208, .plain, F_i_isNonce), (109, .plain, F_i_within), (286, .plain, F_i_PutN), (277, .plain, F_i_joined)] ⟨fn_i_isRole, fn_i_isNonce, fn_i_within, fn_i_PutN, fn_i_joined, trivial⟩ Tryz.func278 (by kernel_rfl) (by kernel_rfl) (by kernel_rfl) 0 fun d => by kernel_rfl
def F_i_Start : Fun1 := funV [] (fun d => (T_i_Start ).val) fun r => ([rv (false, [.sl 3 [.int .i64]]) r], [])
theorem fn_i_Start : Fn Tryz.prog 350 .plain F_i_Start := mkF [] trivial Tryz.func350 (by kernel_rfl) (by kernel_rfl) (by kernel_rfl) 0 fun d => by kernel_rfl
def F_i_HashNew : Fun1 := funV [] (fun d => (T_i_HashNew ).val) fun r => ([rv (true, h_3) r], [])
theorem fn_i_HashNew : Fn Tryz.prog 336 .plain F_i_HashNew := mkF [(350, .plain, F_i_Start)] ⟨fn_i_Start, trivial⟩ Tryz.func336 (by kernel_rfl) (by kernel_rfl) (by kernel_rfl) 0 fun d => by kernel_rfl
def F_i_HashOk : Fun1 := funV [(true, h_3)] (fun d => (T_i_HashOk d.1).val) fun r => ([rv (false, [.bool]) r], [])
theorem fn_i_HashOk : Fn Tryz.prog 346 .plain F_i_HashOk := mkF [(327, .plain, F_i_areWords), (109, .plain, F_i_within)] ⟨fn_i_areWords, fn_i_within, trivial⟩ Tryz.func346 (by kernel_rfl) (by kernel_rfl) (by kernel_rfl) 0 fun d => by kernel_rfl
def F_i_Cut : Fun1 := funV [(false, [.sl 5 [.int .u8]]), (false, [.int .i64]), (false, [.int .i64])] (fun d => (T_i_Cut d.1 d.2.1 d.2.2.1).val) fun r => ([rv (false, [.sl 5 [.int .u8]]) r.1, rv (false, [.bool]) r.2], [])
theorem fn_i_Cut : Fn Tryz.prog 358 .plain F_i_Cut := mkF [] trivial Tryz.func358 (by kernel_rfl) (by kernel_rfl) (by kernel_rfl) 0 fun d => by kernel_rfl
def P_i_GetN : List (Bool × List Sh) := [(false, [.sl 5 [.int .u8]]), (false, [.int .i64]), (false, [.int .i64])]
def O_i_GetN (r : (YI) × (YI) × (Bool × Unit)) : List RV × List RV := ([rv (false, [.int .i64]) r.1, rv (false, [.int .i64]) r.2.1, rv (false, [.bool]) r.2.2], [])
def C_i_GetN : Fns := [(358, .plain, F_i_Cut)]
def F_i_GetN : Fun1 := funV P_i_GetN (fun d => (T_i_GetN d.1 d.2.1 d.2.2.1).val) O_i_GetN
def K_i_GetN_8 : Sk := ⟨[(1, .v false [(.int .i64, .nil)]), (2, .v false [(.int .i64, .nil)]), (11, .v false [(.int .i64, .nil)]), (29, .v false [(.sl 5 [.int .u8], (.own 9000000))]), (30, .v false [(.int .i64, .nil)]), (31, .v false [(.int .i64, .nil)])], [], [9000000]⟩
def X_i_GetN_8 : List (Ex × Sk) := [((.exit 0), ⟨[(1, .v false [(.int .i64, .nil)]), (2, .v false [(.int .i64, .nil)]), (11, .v false [(.int .i64, .nil)])], [], []⟩)]
def Q_i_GetN : Loops := fun i st => cond (Nat.beq i 8) (lam K_i_GetN_8 9000000 X_i_GetN_8 B_i_GetN_8 st) <| .fail
theorem lp_i_GetN_8 : ∀ d, bod ⟨lookT tys, ctrOf C_i_GetN, kindOf C_i_GetN, 3, 4⟩ 0 Tryz.f357.ntmps Q_i_GetN (nthLoop Tryz.f357 0) K_i_GetN_8 9000000 X_i_GetN_8 d = B_i_GetN_8 d := fun d => by kernel_rfl
theorem lo_i_GetN_8 (cx : Cx) (hp : cx.pin.length ≤ 0) : LoopOk Tryz.prog cx Tryz.f357.ntmps Q_i_GetN (nthLoop Tryz.f357 0) := loop_of (cfgOk_of mixed tys_ok (show FnsOk Tryz.prog C_i_GetN from ⟨fn_i_Cut, trivial⟩)) hp (all_of (by kernel_rfl : loopsOf (nthLoop Tryz.f357 0) = []) trivial) (by kernel_rfl) lp_i_GetN_8
theorem e_i_GetN : ∀ d, pcall ⟨lookT tys, ctrOf C_i_GetN, kindOf C_i_GetN, 3, 4⟩ 0 Q_i_GetN Tryz.f357 .plain (mkA P_i_GetN d) = (T_i_GetN d.1 d.2.1 d.2.2.1).run fun r => some (O_i_GetN r) := fun d => by kernel_rfl
theorem fn_i_GetN : Fn Tryz.prog 357 .plain F_i_GetN := fn_of (cfgOk_of mixed tys_ok (show FnsOk Tryz.prog C_i_GetN from ⟨fn_i_Cut, trivial⟩)) Tryz.func357 (by kernel_rfl) (by kernel_rfl) (fun cx b hp hb => all_of (by kernel_rfl : loopsOf (Tryz.f357.body.getD .skip) = [nthLoop Tryz.f357 0]) ⟨lo_i_GetN_8 cx hp, trivial⟩ b hb) (R := (YI) × (YI) × (Bool × Unit)) (T := fun (d : aden P_i_GetN) => T_i_GetN d.1 d.2.1 d.2.2.1) e_i_GetN
def F_i_Rot : Fun1 := funV [(false, [.int .i64]), (false, [.int .i64])] (fun d => (T_i_Rot d.1 d.2.1).val) fun r => ([rv (false, [.int .i64]) r], [])
theorem fn_i_Rot : Fn Tryz.prog 354 .plain F_i_Rot := mkF [] trivial Tryz.func354 (by kernel_rfl) (by kernel_rfl) (by kernel_rfl) 0 fun d => by kernel_rfl
def P_i_Schedule : List (Bool × List Sh) := [(false, [.sl 5 [.int .u8]])]
def O_i_Schedule (r : ((List YI) × Unit)) : List RV × List RV := ([rv (false, [.sl 3 [.int .i64]]) r], [])
def C_i_Schedule : Fns := [(357, .plain, F_i_GetN), (354, .plain, F_i_Rot)]
def F_i_Schedule : Fun1 := funV P_i_Schedule (fun d => (T_i_Schedule d.1).val) O_i_Schedule
def K_i_Schedule_9 : Sk := ⟨[(3, .v false [(.sl 3 [.int .i64], (.own 10000000))]), (5, .v false [(.int .i64, .nil)])], [], [10000000]⟩
def X_i_Schedule_9 : List (Ex × Sk) := [((.exit 2), ⟨[(3, .v false [(.sl 3 [.int .i64], (.own 10000000))])], [], [10000000]⟩)]
def K_i_Schedule_5 : Sk := ⟨[(0, .v false [(.sl 5 [.int .u8], .ro)]), (3, .v false [(.sl 3 [.int .i64], (.own 6000000))]), (4, .v false [(.int .i64, .nil)])], [], [6000000]⟩
def X_i_Schedule_5 : List (Ex × Sk) := [((.exit 0), ⟨[(3, .v false [(.sl 3 [.int .i64], (.own 6000000))])], [], [6000000]⟩)]
def Q_i_Schedule : Loops := fun i st => cond (Nat.beq i 5) (lam K_i_Schedule_5 6000000 X_i_Schedule_5 B_i_Schedule_5 st) <| cond (Nat.beq i 9) (lam K_i_Schedule_9 10000000 X_i_Schedule_9 B_i_Schedule_9 st) <| .fail
theorem lp_i_Schedule_5 : ∀ d, bod ⟨lookT tys, ctrOf C_i_Schedule, kindOf C_i_Schedule, 3, 4⟩ 0 Tryz.f353.ntmps Q_i_Schedule (nthLoop Tryz.f353 0) K_i_Schedule_5 6000000 X_i_Schedule_5 d = B_i_Schedule_5 d := fun d => by kernel_rfl
theorem lo_i_Schedule_5 (cx : Cx) (hp : cx.pin.length ≤ 0) : LoopOk Tryz.prog cx Tryz.f353.ntmps Q_i_Schedule (nthLoop Tryz.f353 0) := loop_of (cfgOk_of mixed tys_ok (show FnsOk Tryz.prog C_i_Schedule from ⟨fn_i_GetN, fn_i_Rot, trivial⟩)) hp (all_of (by kernel_rfl : loopsOf (nthLoop Tryz.f353 0) = []) trivial) (by kernel_rfl) lp_i_Schedule_5
theorem lp_i_Schedule_9 : ∀ d, bod ⟨lookT tys, ctrOf C_i_Schedule, kindOf C_i_Schedule, 3, 4⟩ 0 Tryz.f353.ntmps Q_i_Schedule (nthLoop Tryz.f353 1) K_i_Schedule_9 10000000 X_i_Schedule_9 d = B_i_Schedule_9 d := fun d => by kernel_rfl
theorem lo_i_Schedule_9 (cx : Cx) (hp : cx.pin.length ≤ 0) : LoopOk Tryz.prog cx Tryz.f353.ntmps Q_i_Schedule (nthLoop Tryz.f353 1) := loop_of (cfgOk_of mixed tys_ok (show FnsOk Tryz.prog C_i_Schedule from ⟨fn_i_GetN, fn_i_Rot, trivial⟩)) hp (all_of (by kernel_rfl : loopsOf (nthLoop Tryz.f353 1) = []) trivial) (by kernel_rfl) lp_i_Schedule_9
theorem e_i_Schedule : ∀ d, pcall ⟨lookT tys, ctrOf C_i_Schedule, kindOf C_i_Schedule, 3, 4⟩ 0 Q_i_Schedule Tryz.f353 .plain (mkA P_i_Schedule d) = (T_i_Schedule d.1).run fun r => some (O_i_Schedule r) := fun d => by kernel_rfl
theorem fn_i_Schedule : Fn Tryz.prog 353 .plain F_i_Schedule := fn_of (cfgOk_of mixed tys_ok (show FnsOk Tryz.prog C_i_Schedule from ⟨fn_i_GetN, fn_i_Rot, trivial⟩)) Tryz.func353 (by kernel_rfl) (by kernel_rfl) (fun cx b hp hb => all_of (by kernel_rfl : loopsOf (Tryz.f353.body.getD .skip) = [nthLoop Tryz.f353 0, nthLoop Tryz.f353 1]) ⟨lo_i_Schedule_5 cx hp, lo_i_Schedule_9 cx hp, trivial⟩ b hb) (R := ((List YI) × Unit)) (T := fun (d : aden P_i_Schedule) => T_i_Schedule d.1) e_i_Schedule
theorem round_any (n : Int) (w : World) (h0 : 0 ≤ n) (h1 : n ≤ 63) :
    Calls Tryz.prog 355 #[.int .i64 n] w (Ret w (.int .i64 (roundL[n.toNat]?.getD 0))) := by
  have hx : ∃ x, roundL[n.toNat]? = some x := ⟨_, List.getElem?_eq_getElem (by simp [roundL]; omega)⟩
  obtain ⟨x, hx⟩ := hx
  have hcell : (putRow 310 w roundC).cell? ⟨w.heap.size, n.toNat, none⟩ = some (.int .i64 x) := by
    rw [putRow_cell]; unfold roundC; rw [List.getElem?_toArray, List.getElem?_map, hx]; rfl
  rw [hx]
  go_enter Tryz.func355, Tryz.ntmps355
  go_wp2_with (first | (refine wpList_buildC rfl 310 _ rfl roundC (by kernel_rfl) ?_) | (refine wpList_allocC rfl 310 rfl _ _ zeroC (by kernel_rfl) (by kernel_rfl) (by kernel_rfl) ?_) | (refine wpList_storeC rfl 310 _ _ rfl roundC rfl rfl (by kernel_rfl) (by kernel_rfl) (by kernel_rfl) ?_))
  go_ret
  refine Ret.mk rfl ?_
  rw [putRow_eq]
  exact (Grew.refl _).alloc _
theorem round_out (n : Int) (w : World) (h0 : ¬ (0 ≤ n ∧ n ≤ 63)) :
    Calls Tryz.prog 355 #[.int .i64 n] w (Ret w (.int .i64 0)) := by
  by_cases h : n < 0
  · go_enter Tryz.func355, Tryz.ntmps355
    go_wp2_with fail
    go_ret
    exact Ret.mk rfl (Grew.refl _)
  · have h2 : 63 < n := by omega
    go_enter Tryz.func355, Tryz.ntmps355
    go_wp2_with fail
    go_ret
    exact Ret.mk rfl (Grew.refl _)
def P_i_RoundWord : List (Bool × List Sh) := [(false, [.int .i64])]
def O_i_RoundWord (r : YI) : List RV × List RV := ([rv (false, [.int .i64]) r], [])
def F_i_RoundWord : Fun1 := funV P_i_RoundWord (fun d => (T_i_RoundWord d.1).val) O_i_RoundWord
theorem fn_i_RoundWord : Fn Tryz.prog 355 .plain F_i_RoundWord := by
  refine ⟨?_, Tryz.f355, Tryz.func355, by kernel_rfl, by kernel_rfl⟩
  intro rs res vals w G hv hG hr
  obtain ⟨d, x, rfl, h1, h2⟩ := funV_val hv
  obtain ⟨⟨n, _⟩, _⟩ := d
  cases h1
  subst h2
  match vals, hr with
  | [v], hr =>
    have e : v = .int .i64 n := hr.1.1.1
    subst e
    refine (?_ : Calls Tryz.prog 355 #[.int .i64 n] w (Ret w (.int .i64 (roundW n)))).mono fun e w' h => gives_int (roundW_wf n) h
    unfold roundW
    by_cases h : 0 ≤ n ∧ n ≤ 63
    · rw [if_pos h]; exact round_any n w h.1 h.2
    · rw [if_neg h]; exact round_out n w h

def F_i_Add32 : Fun1 := funV [(false, [.int .i64]), (false, [.int .i64])] (fun d => (T_i_Add32 d.1 d.2.1).val) fun r => ([rv (false, [.int .i64]) r], [])
theorem fn_i_Add32 : Fn Tryz.prog 356 .plain F_i_Add32 := mkF [] trivial Tryz.func356 (by kernel_rfl) (by kernel_rfl) (by kernel_rfl) 0 fun d => by kernel_rfl
def P_i_Compress : List (Bool × List Sh) := [(false, [.sl 3 [.int .i64]]), (false, [.sl 5 [.int .u8]])]
def O_i_Compress (r : ((List YI) × Unit)) : List RV × List RV := ([rv (false, [.sl 3 [.int .i64]]) r], [])
def C_i_Compress : Fns := [(327, .plain, F_i_areWords), (353, .plain, F_i_Schedule), (354, .plain, F_i_Rot), (355, .plain, F_i_RoundWord), (356, .plain, F_i_Add32)]
def F_i_Compress : Fun1 := funV P_i_Compress (fun d => (T_i_Compress d.1 d.2.1).val) O_i_Compress
def K_i_Compress_16 : Sk := ⟨[(0, .v false [(.sl 3 [.int .i64], .ro)]), (5, .v false [(.sl 3 [.int .i64], (.own 17000000))]), (133, .v false [(.sl 3 [.int .i64], (.own 17000001))]), (134, .v false [(.int .i64, .nil)]), (135, .v false [(.int .i64, .nil)])], [], [17000000, 17000001]⟩
def X_i_Compress_16 : List (Ex × Sk) := [((.exit 2), ⟨[(5, .v false [(.sl 3 [.int .i64], (.own 17000000))])], [], [17000000]⟩)]
def K_i_Compress_7 : Sk := ⟨[(0, .v false [(.sl 3 [.int .i64], .ro)]), (5, .v false [(.sl 3 [.int .i64], (.own 8000000))]), (6, .v false [(.sl 3 [.int .i64], (.own 8000001))]), (7, .v false [(.int .i64, .nil)]), (8, .v false [(.int .i64, .nil)]), (9, .v false [(.int .i64, .nil)]), (10, .v false [(.int .i64, .nil)]), (11, .v false [(.int .i64, .nil)]), (12, .v false [(.int .i64, .nil)]), (13, .v false [(.int .i64, .nil)]), (14, .v false [(.int .i64, .nil)]), (15, .v false [(.int .i64, .nil)])], [], [8000000, 8000001]⟩
def X_i_Compress_7 : List (Ex × Sk) := [((.exit 0), ⟨[(0, .v false [(.sl 3 [.int .i64], .ro)]), (5, .v false [(.sl 3 [.int .i64], (.own 8000000))]), (7, .v false [(.int .i64, .nil)]), (8, .v false [(.int .i64, .nil)]), (9, .v false [(.int .i64, .nil)]), (10, .v false [(.int .i64, .nil)]), (11, .v false [(.int .i64, .nil)]), (12, .v false [(.int .i64, .nil)]), (13, .v false [(.int .i64, .nil)]), (14, .v false [(.int .i64, .nil)])], [], [8000000]⟩)]
def Q_i_Compress : Loops := fun i st => cond (Nat.beq i 7) (lam K_i_Compress_7 8000000 X_i_Compress_7 B_i_Compress_7 st) <| cond (Nat.beq i 16) (lam K_i_Compress_16 17000000 X_i_Compress_16 B_i_Compress_16 st) <| .fail
theorem lp_i_Compress_7 : ∀ d, bod ⟨lookT tys, ctrOf C_i_Compress, kindOf C_i_Compress, 3, 4⟩ 0 Tryz.f352.ntmps Q_i_Compress (nthLoop Tryz.f352 0) K_i_Compress_7 8000000 X_i_Compress_7 d = B_i_Compress_7 d := fun d => by kernel_rfl
theorem lo_i_Compress_7 (cx : Cx) (hp : cx.pin.length ≤ 0) : LoopOk Tryz.prog cx Tryz.f352.ntmps Q_i_Compress (nthLoop Tryz.f352 0) := loop_of (cfgOk_of mixed tys_ok (show FnsOk Tryz.prog C_i_Compress from ⟨fn_i_areWords, fn_i_Schedule, fn_i_Rot, fn_i_RoundWord, fn_i_Add32, trivial⟩)) hp (all_of (by kernel_rfl : loopsOf (nthLoop Tryz.f352 0) = []) trivial) (by kernel_rfl) lp_i_Compress_7
theorem lp_i_Compress_16 : ∀ d, bod ⟨lookT tys, ctrOf C_i_Compress, kindOf C_i_Compress, 3, 4⟩ 0 Tryz.f352.ntmps Q_i_Compress (nthLoop Tryz.f352 1) K_i_Compress_16 17000000 X_i_Compress_16 d = B_i_Compress_16 d := fun d => by kernel_rfl
theorem lo_i_Compress_16 (cx : Cx) (hp : cx.pin.length ≤ 0) : LoopOk Tryz.prog cx Tryz.f352.ntmps Q_i_Compress (nthLoop Tryz.f352 1) := loop_of (cfgOk_of mixed tys_ok (show FnsOk Tryz.prog C_i_Compress from ⟨fn_i_areWords, fn_i_Schedule, fn_i_Rot, fn_i_RoundWord, fn_i_Add32, trivial⟩)) hp (all_of (by kernel_rfl : loopsOf (nthLoop Tryz.f352 1) = []) trivial) (by kernel_rfl) lp_i_Compress_16
theorem e_i_Compress : ∀ d, pcall ⟨lookT tys, ctrOf C_i_Compress, kindOf C_i_Compress, 3, 4⟩ 0 Q_i_Compress Tryz.f352 .plain (mkA P_i_Compress d) = (T_i_Compress d.1 d.2.1).run fun r => some (O_i_Compress r) := fun d => by kernel_rfl
theorem fn_i_Compress : Fn Tryz.prog 352 .plain F_i_Compress := fn_of (cfgOk_of mixed tys_ok (show FnsOk Tryz.prog C_i_Compress from ⟨fn_i_areWords, fn_i_Schedule, fn_i_Rot, fn_i_RoundWord, fn_i_Add32, trivial⟩)) Tryz.func352 (by kernel_rfl) (by kernel_rfl) (fun cx b hp hb => all_of (by kernel_rfl : loopsOf (Tryz.f352.body.getD .skip) = [nthLoop Tryz.f352 0, nthLoop Tryz.f352 1]) ⟨lo_i_Compress_7 cx hp, lo_i_Compress_16 cx hp, trivial⟩ b hb) (R := ((List YI) × Unit)) (T := fun (d : aden P_i_Compress) => T_i_Compress d.1 d.2.1) e_i_Compress
def P_i_compressAll : List (Bool × List Sh) := [(false, [.sl 3 [.int .i64]]), (false, [.sl 5 [.int .u8]])]
def O_i_compressAll (r : ((List YI) × Unit) × (YBs)) : List RV × List RV := ([rv (false, [.sl 3 [.int .i64]]) r.1, rv (false, [.sl 5 [.int .u8]]) r.2], [])
def C_i_compressAll : Fns := [(352, .plain, F_i_Compress)]
def F_i_compressAll : Fun1 := funV P_i_compressAll (fun d => (T_i_compressAll d.1 d.2.1).val) O_i_compressAll
def K_i_compressAll_1 : Sk := ⟨[(0, .v false [(.sl 3 [.int .i64], .rd)]), (1, .v false [(.sl 5 [.int .u8], .ro)])], [], []⟩
def X_i_compressAll_1 : List (Ex × Sk) := [((.exit 0), ⟨[(0, .v false [(.sl 3 [.int .i64], .rd)]), (1, .v false [(.sl 5 [.int .u8], .ro)])], [], []⟩)]
def Q_i_compressAll : Loops := fun i st => cond (Nat.beq i 1) (lam K_i_compressAll_1 2000000 X_i_compressAll_1 B_i_compressAll_1 st) <| .fail
theorem lp_i_compressAll_1 : ∀ d, bod ⟨lookT tys, ctrOf C_i_compressAll, kindOf C_i_compressAll, 3, 4⟩ 0 Tryz.f347.ntmps Q_i_compressAll (nthLoop Tryz.f347 0) K_i_compressAll_1 2000000 X_i_compressAll_1 d = B_i_compressAll_1 d := fun d => by kernel_rfl
theorem lo_i_compressAll_1 (cx : Cx) (hp : cx.pin.length ≤ 0) : LoopOk Tryz.prog cx Tryz.f347.ntmps Q_i_compressAll (nthLoop Tryz.f347 0) := loop_of (cfgOk_of mixed tys_ok (show FnsOk Tryz.prog C_i_compressAll from ⟨fn_i_Compress, trivial⟩)) hp (all_of (by kernel_rfl : loopsOf (nthLoop Tryz.f347 0) = []) trivial) (by kernel_rfl) lp_i_compressAll_1
theorem e_i_compressAll : ∀ d, pcall ⟨lookT tys, ctrOf C_i_compressAll, kindOf C_i_compressAll, 3, 4⟩ 0 Q_i_compressAll Tryz.f347 .view (mkA P_i_compressAll d) = (T_i_compressAll d.1 d.2.1).run fun r => some (O_i_compressAll r) := fun d => by kernel_rfl
theorem fn_i_compressAll : Fn Tryz.prog 347 .view F_i_compressAll := fn_of (cfgOk_of mixed tys_ok (show FnsOk Tryz.prog C_i_compressAll from ⟨fn_i_Compress, trivial⟩)) Tryz.func347 (by kernel_rfl) (by kernel_rfl) (fun cx b hp hb => all_of (by kernel_rfl : loopsOf (Tryz.f347.body.getD .skip) = [nthLoop Tryz.f347 0]) ⟨lo_i_compressAll_1 cx hp, trivial⟩ b hb) (R := ((List YI) × Unit) × (YBs)) (T := fun (d : aden P_i_compressAll) => T_i_compressAll d.1 d.2.1) e_i_compressAll
def F_i_HashAdd : Fun1 := funV [(true, h_3), (false, [.sl 5 [.int .u8]])] (fun d => (T_i_HashAdd d.1 d.2.1).val) fun r => ([rv (true, h_3) r], [])
theorem fn_i_HashAdd : Fn Tryz.prog 335 .plain F_i_HashAdd := mkF [(346, .plain, F_i_HashOk), (111, .plain, F_i_clone), (277, .plain, F_i_joined), (347, .view, F_i_compressAll)] ⟨fn_i_HashOk, fn_i_clone, fn_i_joined, fn_i_compressAll, trivial⟩ Tryz.func335 (by kernel_rfl) (by kernel_rfl) (by kernel_rfl) 0 fun d => by kernel_rfl
def P_i_Pad : List (Bool × List Sh) := [(false, [.int .i64])]
def O_i_Pad (r : (YBs)) : List RV × List RV := ([rv (false, [.sl 5 [.int .u8]]) r], [])
def C_i_Pad : Fns := [(109, .plain, F_i_within), (286, .plain, F_i_PutN)]
def F_i_Pad : Fun1 := funV P_i_Pad (fun d => (T_i_Pad d.1).val) O_i_Pad
def K_i_Pad_4 : Sk := ⟨[(0, .v false [(.int .i64, .nil)]), (3, .v false [(.sl 5 [.int .u8], (.own 5000000))])], [], [5000000]⟩
def X_i_Pad_4 : List (Ex × Sk) := [((.exit 0), ⟨[(0, .v false [(.int .i64, .nil)]), (3, .v false [(.sl 5 [.int .u8], (.own 5000000))])], [], [5000000]⟩)]
def Q_i_Pad : Loops := fun i st => cond (Nat.beq i 4) (lam K_i_Pad_4 5000000 X_i_Pad_4 B_i_Pad_4 st) <| .fail
theorem lp_i_Pad_4 : ∀ d, bod ⟨lookT tys, ctrOf C_i_Pad, kindOf C_i_Pad, 3, 4⟩ 0 Tryz.f348.ntmps Q_i_Pad (nthLoop Tryz.f348 0) K_i_Pad_4 5000000 X_i_Pad_4 d = B_i_Pad_4 d := fun d => by kernel_rfl
theorem lo_i_Pad_4 (cx : Cx) (hp : cx.pin.length ≤ 0) : LoopOk Tryz.prog cx Tryz.f348.ntmps Q_i_Pad (nthLoop Tryz.f348 0) := loop_of (cfgOk_of mixed tys_ok (show FnsOk Tryz.prog C_i_Pad from ⟨fn_i_within, fn_i_PutN, trivial⟩)) hp (all_of (by kernel_rfl : loopsOf (nthLoop Tryz.f348 0) = []) trivial) (by kernel_rfl) lp_i_Pad_4
theorem e_i_Pad : ∀ d, pcall ⟨lookT tys, ctrOf C_i_Pad, kindOf C_i_Pad, 3, 4⟩ 0 Q_i_Pad Tryz.f348 .plain (mkA P_i_Pad d) = (T_i_Pad d.1).run fun r => some (O_i_Pad r) := fun d => by kernel_rfl
theorem fn_i_Pad : Fn Tryz.prog 348 .plain F_i_Pad := fn_of (cfgOk_of mixed tys_ok (show FnsOk Tryz.prog C_i_Pad from ⟨fn_i_within, fn_i_PutN, trivial⟩)) Tryz.func348 (by kernel_rfl) (by kernel_rfl) (fun cx b hp hb => all_of (by kernel_rfl : loopsOf (Tryz.f348.body.getD .skip) = [nthLoop Tryz.f348 0]) ⟨lo_i_Pad_4 cx hp, trivial⟩ b hb) (R := (YBs)) (T := fun (d : aden P_i_Pad) => T_i_Pad d.1) e_i_Pad
def P_i_wordBytes : List (Bool × List Sh) := [(false, [.sl 3 [.int .i64]])]
def O_i_wordBytes (r : (YBs)) : List RV × List RV := ([rv (false, [.sl 5 [.int .u8]]) r], [])
def C_i_wordBytes : Fns := [(286, .plain, F_i_PutN)]
def F_i_wordBytes : Fun1 := funV P_i_wordBytes (fun d => (T_i_wordBytes d.1).val) O_i_wordBytes
def K_i_wordBytes_3 : Sk := ⟨[(3, .v false [(.sl 5 [.int .u8], (.own 4000000))]), (7, .v false [(.sl 3 [.int .i64], .ro)]), (8, .v false [(.int .i64, .nil)]), (9, .v false [(.int .i64, .nil)])], [], [4000000]⟩
def X_i_wordBytes_3 : List (Ex × Sk) := [((.exit 0), ⟨[(3, .v false [(.sl 5 [.int .u8], (.own 4000000))])], [], [4000000]⟩)]
def Q_i_wordBytes : Loops := fun i st => cond (Nat.beq i 3) (lam K_i_wordBytes_3 4000000 X_i_wordBytes_3 B_i_wordBytes_3 st) <| .fail
theorem lp_i_wordBytes_3 : ∀ d, bod ⟨lookT tys, ctrOf C_i_wordBytes, kindOf C_i_wordBytes, 3, 4⟩ 0 Tryz.f349.ntmps Q_i_wordBytes (nthLoop Tryz.f349 0) K_i_wordBytes_3 4000000 X_i_wordBytes_3 d = B_i_wordBytes_3 d := fun d => by kernel_rfl
theorem lo_i_wordBytes_3 (cx : Cx) (hp : cx.pin.length ≤ 0) : LoopOk Tryz.prog cx Tryz.f349.ntmps Q_i_wordBytes (nthLoop Tryz.f349 0) := loop_of (cfgOk_of mixed tys_ok (show FnsOk Tryz.prog C_i_wordBytes from ⟨fn_i_PutN, trivial⟩)) hp (all_of (by kernel_rfl : loopsOf (nthLoop Tryz.f349 0) = []) trivial) (by kernel_rfl) lp_i_wordBytes_3
theorem e_i_wordBytes : ∀ d, pcall ⟨lookT tys, ctrOf C_i_wordBytes, kindOf C_i_wordBytes, 3, 4⟩ 0 Q_i_wordBytes Tryz.f349 .plain (mkA P_i_wordBytes d) = (T_i_wordBytes d.1).run fun r => some (O_i_wordBytes r) := fun d => by kernel_rfl
theorem fn_i_wordBytes : Fn Tryz.prog 349 .plain F_i_wordBytes := fn_of (cfgOk_of mixed tys_ok (show FnsOk Tryz.prog C_i_wordBytes from ⟨fn_i_PutN, trivial⟩)) Tryz.func349 (by kernel_rfl) (by kernel_rfl) (fun cx b hp hb => all_of (by kernel_rfl : loopsOf (Tryz.f349.body.getD .skip) = [nthLoop Tryz.f349 0]) ⟨lo_i_wordBytes_3 cx hp, trivial⟩ b hb) (R := (YBs)) (T := fun (d : aden P_i_wordBytes) => T_i_wordBytes d.1) e_i_wordBytes
def F_i_HashEnd : Fun1 := funV [(true, h_3)] (fun d => (T_i_HashEnd d.1).val) fun r => ([rv (false, [.sl 5 [.int .u8]]) r], [])
theorem fn_i_HashEnd : Fn Tryz.prog 334 .plain F_i_HashEnd := mkF [(346, .plain, F_i_HashOk), (348, .plain, F_i_Pad), (277, .plain, F_i_joined), (347, .view, F_i_compressAll), (349, .plain, F_i_wordBytes)] ⟨fn_i_HashOk, fn_i_Pad, fn_i_joined, fn_i_compressAll, fn_i_wordBytes, trivial⟩ Tryz.func334 (by kernel_rfl) (by kernel_rfl) (by kernel_rfl) 0 fun d => by kernel_rfl
def F_i_Sha : Fun1 := funV [(false, [.sl 5 [.int .u8]])] (fun d => (T_i_Sha d.1).val) fun r => ([rv (false, [.sl 5 [.int .u8]]) r], [])
theorem fn_i_Sha : Fn Tryz.prog 318 .plain F_i_Sha := mkF [(336, .plain, F_i_HashNew), (335, .plain, F_i_HashAdd), (334, .plain, F_i_HashEnd)] ⟨fn_i_HashNew, fn_i_HashAdd, fn_i_HashEnd, trivial⟩ Tryz.func318 (by kernel_rfl) (by kernel_rfl) (by kernel_rfl) 0 fun d => by kernel_rfl
def P_i_BlockKey : List (Bool × List Sh) := [(false, [.sl 5 [.int .u8]])]
def O_i_BlockKey (r : (YBs)) : List RV × List RV := ([rv (false, [.sl 5 [.int .u8]]) r], [])
def C_i_BlockKey : Fns := [(111, .plain, F_i_clone), (318, .plain, F_i_Sha)]
def F_i_BlockKey : Fun1 := funV P_i_BlockKey (fun d => (T_i_BlockKey d.1).val) O_i_BlockKey
def K_i_BlockKey_6 : Sk := ⟨[(3, .v false [(.sl 5 [.int .u8], (.own 7000000))])], [], [7000000]⟩
def X_i_BlockKey_6 : List (Ex × Sk) := [((.exit 0), ⟨[(3, .v false [(.sl 5 [.int .u8], (.own 7000000))])], [], [7000000]⟩)]
def Q_i_BlockKey : Loops := fun i st => cond (Nat.beq i 6) (lam K_i_BlockKey_6 7000000 X_i_BlockKey_6 B_i_BlockKey_6 st) <| .fail
theorem lp_i_BlockKey_6 : ∀ d, bod ⟨lookT tys, ctrOf C_i_BlockKey, kindOf C_i_BlockKey, 3, 4⟩ 0 Tryz.f317.ntmps Q_i_BlockKey (nthLoop Tryz.f317 0) K_i_BlockKey_6 7000000 X_i_BlockKey_6 d = B_i_BlockKey_6 d := fun d => by kernel_rfl
theorem lo_i_BlockKey_6 (cx : Cx) (hp : cx.pin.length ≤ 0) : LoopOk Tryz.prog cx Tryz.f317.ntmps Q_i_BlockKey (nthLoop Tryz.f317 0) := loop_of (cfgOk_of mixed tys_ok (show FnsOk Tryz.prog C_i_BlockKey from ⟨fn_i_clone, fn_i_Sha, trivial⟩)) hp (all_of (by kernel_rfl : loopsOf (nthLoop Tryz.f317 0) = []) trivial) (by kernel_rfl) lp_i_BlockKey_6
theorem e_i_BlockKey : ∀ d, pcall ⟨lookT tys, ctrOf C_i_BlockKey, kindOf C_i_BlockKey, 3, 4⟩ 0 Q_i_BlockKey Tryz.f317 .plain (mkA P_i_BlockKey d) = (T_i_BlockKey d.1).run fun r => some (O_i_BlockKey r) := fun d => by kernel_rfl
theorem fn_i_BlockKey : Fn Tryz.prog 317 .plain F_i_BlockKey := fn_of (cfgOk_of mixed tys_ok (show FnsOk Tryz.prog C_i_BlockKey from ⟨fn_i_clone, fn_i_Sha, trivial⟩)) Tryz.func317 (by kernel_rfl) (by kernel_rfl) (fun cx b hp hb => all_of (by kernel_rfl : loopsOf (Tryz.f317.body.getD .skip) = [nthLoop Tryz.f317 0]) ⟨lo_i_BlockKey_6 cx hp, trivial⟩ b hb) (R := (YBs)) (T := fun (d : aden P_i_BlockKey) => T_i_BlockKey d.1) e_i_BlockKey
def P_i_masked : List (Bool × List Sh) := [(false, [.sl 5 [.int .u8]]), (false, [.int .u8])]
def O_i_masked (r : (YBs)) : List RV × List RV := ([rv (false, [.sl 5 [.int .u8]]) r], [])
def C_i_masked : Fns := []
def F_i_masked : Fun1 := funV P_i_masked (fun d => (T_i_masked d.1 d.2.1).val) O_i_masked
def K_i_masked_3 : Sk := ⟨[(1, .v false [(.int .u8, .nil)]), (5, .v false [(.sl 5 [.int .u8], (.own 4000000))]), (9, .v false [(.sl 5 [.int .u8], .ro)]), (10, .v false [(.int .i64, .nil)]), (11, .v false [(.int .i64, .nil)])], [], [4000000]⟩
def X_i_masked_3 : List (Ex × Sk) := [((.exit 0), ⟨[(5, .v false [(.sl 5 [.int .u8], (.own 4000000))])], [], [4000000]⟩)]
def Q_i_masked : Loops := fun i st => cond (Nat.beq i 3) (lam K_i_masked_3 4000000 X_i_masked_3 B_i_masked_3 st) <| .fail
theorem lp_i_masked_3 : ∀ d, bod ⟨lookT tys, ctrOf C_i_masked, kindOf C_i_masked, 3, 4⟩ 0 Tryz.f319.ntmps Q_i_masked (nthLoop Tryz.f319 0) K_i_masked_3 4000000 X_i_masked_3 d = B_i_masked_3 d := fun d => by kernel_rfl
theorem lo_i_masked_3 (cx : Cx) (hp : cx.pin.length ≤ 0) : LoopOk Tryz.prog cx Tryz.f319.ntmps Q_i_masked (nthLoop Tryz.f319 0) := loop_of (cfgOk_of mixed tys_ok (show FnsOk Tryz.prog C_i_masked from trivial)) hp (all_of (by kernel_rfl : loopsOf (nthLoop Tryz.f319 0) = []) trivial) (by kernel_rfl) lp_i_masked_3
theorem e_i_masked : ∀ d, pcall ⟨lookT tys, ctrOf C_i_masked, kindOf C_i_masked, 3, 4⟩ 0 Q_i_masked Tryz.f319 .plain (mkA P_i_masked d) = (T_i_masked d.1 d.2.1).run fun r => some (O_i_masked r) := fun d => by kernel_rfl
theorem fn_i_masked : Fn Tryz.prog 319 .plain F_i_masked := fn_of (cfgOk_of mixed tys_ok (show FnsOk Tryz.prog C_i_masked from trivial)) Tryz.func319 (by kernel_rfl) (by kernel_rfl) (fun cx b hp hb => all_of (by kernel_rfl : loopsOf (Tryz.f319.body.getD .skip) = [nthLoop Tryz.f319 0]) ⟨lo_i_masked_3 cx hp, trivial⟩ b hb) (R := (YBs)) (T := fun (d : aden P_i_masked) => T_i_masked d.1 d.2.1) e_i_masked
def F_i_Hmac : Fun1 := funV [(false, [.sl 5 [.int .u8]]), (false, [.sl 5 [.int .u8]])] (fun d => (T_i_Hmac d.1 d.2.1).val) fun r => ([rv (false, [.sl 5 [.int .u8]]) r], [])
theorem fn_i_Hmac : Fn Tryz.prog 290 .plain F_i_Hmac := mkF [(317, .plain, F_i_BlockKey), (319, .plain, F_i_masked), (277, .plain, F_i_joined), (318, .plain, F_i_Sha)] ⟨fn_i_BlockKey, fn_i_masked, fn_i_joined, fn_i_Sha, trivial⟩ Tryz.func290 (by kernel_rfl) (by kernel_rfl) (by kernel_rfl) 0 fun d => by kernel_rfl
def F_i_BlockOf : Fun1 := funV [(false, [.sl 5 [.int .u8]]), (false, [.sl 5 [.int .u8]]), (false, [.int .i64])] (fun d => (T_i_BlockOf d.1 d.2.1 d.2.2.1).val) fun r => ([rv (false, [.sl 5 [.int .u8]]) r], [])
theorem fn_i_BlockOf : Fn Tryz.prog 341 .plain F_i_BlockOf := mkF [(109, .plain, F_i_within), (277, .plain, F_i_joined), (286, .plain, F_i_PutN), (290, .plain, F_i_Hmac)] ⟨fn_i_within, fn_i_joined, fn_i_PutN, fn_i_Hmac, trivial⟩ Tryz.func341 (by kernel_rfl) (by kernel_rfl) (by kernel_rfl) 0 fun d => by kernel_rfl
def P_i_Stream : List (Bool × List Sh) := [(false, [.sl 5 [.int .u8]]), (false, [.sl 5 [.int .u8]]), (false, [.int .i64])]
def O_i_Stream (r : (YBs)) : List RV × List RV := ([rv (false, [.sl 5 [.int .u8]]) r], [])
def C_i_Stream : Fns := [(109, .plain, F_i_within), (341, .plain, F_i_BlockOf), (111, .plain, F_i_clone)]
def F_i_Stream : Fun1 := funV P_i_Stream (fun d => (T_i_Stream d.1 d.2.1 d.2.2.1).val) O_i_Stream
def K_i_Stream_5 : Sk := ⟨[(0, .v false [(.sl 5 [.int .u8], .ro)]), (1, .v false [(.sl 5 [.int .u8], .ro)]), (2, .v false [(.int .i64, .nil)]), (7, .v false [(.sl 5 [.int .u8], (.own 6000000))]), (8, .v false [(.int .i64, .nil)])], [], [6000000]⟩
def X_i_Stream_5 : List (Ex × Sk) := [((.exit 0), ⟨[(2, .v false [(.int .i64, .nil)]), (7, .v false [(.sl 5 [.int .u8], (.own 6000000))])], [], [6000000]⟩)]
def Q_i_Stream : Loops := fun i st => cond (Nat.beq i 5) (lam K_i_Stream_5 6000000 X_i_Stream_5 B_i_Stream_5 st) <| .fail
theorem lp_i_Stream_5 : ∀ d, bod ⟨lookT tys, ctrOf C_i_Stream, kindOf C_i_Stream, 3, 4⟩ 0 Tryz.f329.ntmps Q_i_Stream (nthLoop Tryz.f329 0) K_i_Stream_5 6000000 X_i_Stream_5 d = B_i_Stream_5 d := fun d => by kernel_rfl
theorem lo_i_Stream_5 (cx : Cx) (hp : cx.pin.length ≤ 0) : LoopOk Tryz.prog cx Tryz.f329.ntmps Q_i_Stream (nthLoop Tryz.f329 0) := loop_of (cfgOk_of mixed tys_ok (show FnsOk Tryz.prog C_i_Stream from ⟨fn_i_within, fn_i_BlockOf, fn_i_clone, trivial⟩)) hp (all_of (by kernel_rfl : loopsOf (nthLoop Tryz.f329 0) = []) trivial) (by kernel_rfl) lp_i_Stream_5
theorem e_i_Stream : ∀ d, pcall ⟨lookT tys, ctrOf C_i_Stream, kindOf C_i_Stream, 3, 4⟩ 0 Q_i_Stream Tryz.f329 .plain (mkA P_i_Stream d) = (T_i_Stream d.1 d.2.1 d.2.2.1).run fun r => some (O_i_Stream r) := fun d => by kernel_rfl
theorem fn_i_Stream : Fn Tryz.prog 329 .plain F_i_Stream := fn_of (cfgOk_of mixed tys_ok (show FnsOk Tryz.prog C_i_Stream from ⟨fn_i_within, fn_i_BlockOf, fn_i_clone, trivial⟩)) Tryz.func329 (by kernel_rfl) (by kernel_rfl) (fun cx b hp hb => all_of (by kernel_rfl : loopsOf (Tryz.f329.body.getD .skip) = [nthLoop Tryz.f329 0]) ⟨lo_i_Stream_5 cx hp, trivial⟩ b hb) (R := (YBs)) (T := fun (d : aden P_i_Stream) => T_i_Stream d.1 d.2.1 d.2.2.1) e_i_Stream
def P_i_Mix : List (Bool × List Sh) := [(false, [.sl 5 [.int .u8]]), (false, [.sl 5 [.int .u8]]), (false, [.sl 5 [.int .u8]])]
def O_i_Mix (r : (YBs)) : List RV × List RV := ([rv (false, [.sl 5 [.int .u8]]) r], [])
def C_i_Mix : Fns := [(329, .plain, F_i_Stream)]
def F_i_Mix : Fun1 := funV P_i_Mix (fun d => (T_i_Mix d.1 d.2.1 d.2.2.1).val) O_i_Mix
def K_i_Mix_5 : Sk := ⟨[(2, .v false [(.sl 5 [.int .u8], .ro)]), (7, .v false [(.sl 5 [.int .u8], (.own 6000000))]), (28, .v false [(.sl 5 [.int .u8], (.own 6000001))]), (29, .v false [(.int .i64, .nil)]), (30, .v false [(.int .i64, .nil)])], [], [6000000, 6000001]⟩
def X_i_Mix_5 : List (Ex × Sk) := [((.exit 0), ⟨[(7, .v false [(.sl 5 [.int .u8], (.own 6000000))])], [], [6000000]⟩)]
def Q_i_Mix : Loops := fun i st => cond (Nat.beq i 5) (lam K_i_Mix_5 6000000 X_i_Mix_5 B_i_Mix_5 st) <| .fail
theorem lp_i_Mix_5 : ∀ d, bod ⟨lookT tys, ctrOf C_i_Mix, kindOf C_i_Mix, 3, 4⟩ 0 Tryz.f312.ntmps Q_i_Mix (nthLoop Tryz.f312 0) K_i_Mix_5 6000000 X_i_Mix_5 d = B_i_Mix_5 d := fun d => by kernel_rfl
theorem lo_i_Mix_5 (cx : Cx) (hp : cx.pin.length ≤ 0) : LoopOk Tryz.prog cx Tryz.f312.ntmps Q_i_Mix (nthLoop Tryz.f312 0) := loop_of (cfgOk_of mixed tys_ok (show FnsOk Tryz.prog C_i_Mix from ⟨fn_i_Stream, trivial⟩)) hp (all_of (by kernel_rfl : loopsOf (nthLoop Tryz.f312 0) = []) trivial) (by kernel_rfl) lp_i_Mix_5
theorem e_i_Mix : ∀ d, pcall ⟨lookT tys, ctrOf C_i_Mix, kindOf C_i_Mix, 3, 4⟩ 0 Q_i_Mix Tryz.f312 .plain (mkA P_i_Mix d) = (T_i_Mix d.1 d.2.1 d.2.2.1).run fun r => some (O_i_Mix r) := fun d => by kernel_rfl
theorem fn_i_Mix : Fn Tryz.prog 312 .plain F_i_Mix := fn_of (cfgOk_of mixed tys_ok (show FnsOk Tryz.prog C_i_Mix from ⟨fn_i_Stream, trivial⟩)) Tryz.func312 (by kernel_rfl) (by kernel_rfl) (fun cx b hp hb => all_of (by kernel_rfl : loopsOf (Tryz.f312.body.getD .skip) = [nthLoop Tryz.f312 0]) ⟨lo_i_Mix_5 cx hp, trivial⟩ b hb) (R := (YBs)) (T := fun (d : aden P_i_Mix) => T_i_Mix d.1 d.2.1 d.2.2.1) e_i_Mix
def F_i_TagInput : Fun1 := funV [(false, [.int .i64]), (true, h_9)] (fun d => (T_i_TagInput d.1 d.2.1).val) fun r => ([rv (false, [.sl 5 [.int .u8]]) r], [])
theorem fn_i_TagInput : Fn Tryz.prog 214 .plain F_i_TagInput := mkF [(273, .plain, F_i_isRole), (171, .plain, F_i_Sealed), (168, .plain, F_i_FrameOk), (278, .plain, F_i_HeadOf), (277, .plain, F_i_joined)] ⟨fn_i_isRole, fn_i_Sealed, fn_i_FrameOk, fn_i_HeadOf, fn_i_joined, trivial⟩ Tryz.func214 (by kernel_rfl) (by kernel_rfl) (by kernel_rfl) 0 fun d => by kernel_rfl
def F_i_Tag : Fun1 := funV [(false, [.sl 5 [.int .u8]]), (false, [.sl 5 [.int .u8]])] (fun d => (T_i_Tag d.1 d.2.1).val) fun r => ([rv (false, [.sl 5 [.int .u8]]) r], [])
theorem fn_i_Tag : Fn Tryz.prog 313 .plain F_i_Tag := mkF [(290, .plain, F_i_Hmac), (111, .plain, F_i_clone)] ⟨fn_i_Hmac, fn_i_clone, trivial⟩ Tryz.func313 (by kernel_rfl) (by kernel_rfl) (by kernel_rfl) 0 fun d => by kernel_rfl
def F_i_Seal : Fun1 := funV [(false, [.sl 5 [.int .u8]]), (false, [.int .i64]), (false, [.sl 5 [.int .u8]]), (false, [.int .i64]), (false, [.int .i64]), (false, [.int .i64]), (false, [.sl 5 [.int .u8]])] (fun d => (T_i_Seal d.1 d.2.1 d.2.2.1 d.2.2.2.1 d.2.2.2.2.1 d.2.2.2.2.2.1 d.2.2.2.2.2.2.1).val) fun r => ([rv (true, h_9) r.1, rv (false, [.bool]) r.2], [])
theorem fn_i_Seal : Fn Tryz.prog 276 .plain F_i_Seal := mkF [(111, .plain, F_i_clone), (273, .plain, F_i_isRole), (171, .plain, F_i_Sealed), (168, .plain, F_i_FrameOk), (278, .plain, F_i_HeadOf), (312, .plain, F_i_Mix), (214, .plain, F_i_TagInput), (313, .plain, F_i_Tag)] ⟨fn_i_clone, fn_i_isRole, fn_i_Sealed, fn_i_FrameOk, fn_i_HeadOf, fn_i_Mix, fn_i_TagInput, fn_i_Tag, trivial⟩ Tryz.func276 (by kernel_rfl) (by kernel_rfl) (by kernel_rfl) 0 fun d => by kernel_rfl
def F_i_EpSeal : Fun1 := funV [(true, h_5), (false, [.int .i64]), (false, [.sl 5 [.int .u8]]), (false, [.int .i64]), (false, [.sl 5 [.int .u8]])] (fun d => (T_i_EpSeal d.1 d.2.1 d.2.2.1 d.2.2.2.1 d.2.2.2.2.1).val) fun r => ([rv (true, h_5) r.1, rv (true, h_9) r.2.1, rv (false, [.int .i64]) r.2.2], [])
theorem fn_i_EpSeal : Fn Tryz.prog 212 .plain F_i_EpSeal := mkF [(271, .plain, F_i_copyEp), (274, .plain, F_i_EpOk), (276, .plain, F_i_Seal)] ⟨fn_i_copyEp, fn_i_EpOk, fn_i_Seal, trivial⟩ Tryz.func212 (by kernel_rfl) (by kernel_rfl) (by kernel_rfl) 0 fun d => by kernel_rfl
def F_i_ChanSeal : Fun1 := funV [(true, h_11), (false, [.int .i64]), (false, [.sl 5 [.int .u8]])] (fun d => (T_i_ChanSeal d.1 d.2.1 d.2.2.1).val) fun r => ([rv (true, h_11) r.1, rv (true, h_9) r.2.1, rv (false, [.int .i64]) r.2.2], [])
theorem fn_i_ChanSeal : Fn Tryz.prog 110 .plain F_i_ChanSeal := mkF [(204, .plain, F_i_copyChan), (211, .plain, F_i_ChanOk), (212, .plain, F_i_EpSeal)] ⟨fn_i_copyChan, fn_i_ChanOk, fn_i_EpSeal, trivial⟩ Tryz.func110 (by kernel_rfl) (by kernel_rfl) (by kernel_rfl) 0 fun d => by kernel_rfl
def F_i_Made : Fun1 := funV [(false, [.sl 5 [.int .u8]]), (false, [.sl 5 [.int .u8]])] (fun d => (T_i_Made d.1 d.2.1).val) fun r => ([rv (true, h_8) r], [])
theorem fn_i_Made : Fn Tryz.prog 213 .plain F_i_Made := mkF [(111, .plain, F_i_clone)] ⟨fn_i_clone, trivial⟩ Tryz.func213 (by kernel_rfl) (by kernel_rfl) (by kernel_rfl) 0 fun d => by kernel_rfl
def F_i_madeBy : Fun1 := funV [(true, h_11), (true, h_9)] (fun d => (T_i_madeBy d.1 d.2.1).val) fun r => ([rv (true, h_8) r], [])
theorem fn_i_madeBy : Fn Tryz.prog 112 .plain F_i_madeBy := mkF [(214, .plain, F_i_TagInput), (213, .plain, F_i_Made)] ⟨fn_i_TagInput, fn_i_Made, trivial⟩ Tryz.func112 (by kernel_rfl) (by kernel_rfl) (by kernel_rfl) 0 fun d => by kernel_rfl
def F_i_SessSend : Fun1 := funV [(true, h_13), (false, [.sl 5 [.int .u8]])] (fun d => (T_i_SessSend d.1 d.2.1).val) fun r => ([rv (true, h_13) r.1, rv (false, [.sl 175 h_10]) r.2.1, rv (false, [.sl 139 h_8]) r.2.2.1, rv (false, [.int .i64]) r.2.2.2], [])
theorem fn_i_SessSend : Fn Tryz.prog 38 .plain F_i_SessSend := mkF [(123, .plain, F_i_copySess), (124, .plain, F_i_SessOk), (110, .plain, F_i_ChanSeal), (111, .plain, F_i_clone), (112, .plain, F_i_madeBy)] ⟨fn_i_copySess, fn_i_SessOk, fn_i_ChanSeal, fn_i_clone, fn_i_madeBy, trivial⟩ Tryz.func38 (by kernel_rfl) (by kernel_rfl) (by kernel_rfl) 0 fun d => by kernel_rfl
def F_i_PutSess : Fun1 := funV [(true, [.int .i64, .sl 100 h_13]), (false, [.int .i64]), (true, h_13)] (fun d => (T_i_PutSess d.1 d.2.1 d.2.2.1).val) fun r => ([rv (true, [.int .i64, .sl 100 h_13]) r.1, rv (false, [.bool]) r.2], [])
theorem fn_i_PutSess : Fn Tryz.prog 78 .plain F_i_PutSess := mkF [(184, .plain, F_i_copyTab), (188, .plain, F_i_TabOk), (123, .plain, F_i_copySess)] ⟨fn_i_copyTab, fn_i_TabOk, fn_i_copySess, trivial⟩ Tryz.func78 (by kernel_rfl) (by kernel_rfl) (by kernel_rfl) 0 fun d => by kernel_rfl
def F_i_ServerSend : Fun1 := funV [(true, h_15), (false, [.int .i64]), (false, [.int .i64]), (false, [.sl 5 [.int .u8]])] (fun d => (T_i_ServerSend d.1 d.2.1 d.2.2.1 d.2.2.2.1).val) fun r => ([rv (true, h_15) r.1, rv (false, [.sl 175 h_10]) r.2.1, rv (false, [.sl 139 h_8]) r.2.2.1, rv (false, [.int .i64]) r.2.2.2], [])
theorem fn_i_ServerSend : Fn Tryz.prog 60 .plain F_i_ServerSend := mkF [(76, .plain, F_i_copyServer), (77, .plain, F_i_ServerOk), (109, .plain, F_i_within), (38, .plain, F_i_SessSend), (78, .plain, F_i_PutSess)] ⟨fn_i_copyServer, fn_i_ServerOk, fn_i_within, fn_i_SessSend, fn_i_PutSess, trivial⟩ Tryz.func60 (by kernel_rfl) (by kernel_rfl) (by kernel_rfl) 0 fun d => by kernel_rfl
def P_l_eqByteS : List (Bool × List Sh) := [(false, [.sl 5 [.int .u8]]), (false, [.sl 5 [.int .u8]])]
def O_l_eqByteS (r : (Bool × Unit)) : List RV × List RV := ([rv (false, [.bool]) r], [])
def C_l_eqByteS : Fns := []
def F_l_eqByteS : Fun1 := funV P_l_eqByteS (fun d => (T_l_eqByteS d.1 d.2.1).val) O_l_eqByteS
def K_l_eqByteS_4 : Sk := ⟨[(0, .v false [(.sl 5 [.int .u8], .ro)]), (1, .v false [(.sl 5 [.int .u8], .ro)]), (5, .v false [(.int .i64, .nil)])], [], []⟩
def X_l_eqByteS_4 : List (Ex × Sk) := [(.ret, ⟨[(4, .v false [(.bool, .nil)])], [], []⟩), ((.exit 0), ⟨[], [], []⟩)]
def Q_l_eqByteS : Loops := fun i st => cond (Nat.beq i 4) (lam K_l_eqByteS_4 5000000 X_l_eqByteS_4 B_l_eqByteS_4 st) <| .fail
theorem lp_l_eqByteS_4 : ∀ d, bod ⟨lookT tys, ctrOf C_l_eqByteS, kindOf C_l_eqByteS, 3, 4⟩ 0 Tryz.f29.ntmps Q_l_eqByteS (nthLoop Tryz.f29 0) K_l_eqByteS_4 5000000 X_l_eqByteS_4 d = B_l_eqByteS_4 d := fun d => by kernel_rfl
theorem lo_l_eqByteS_4 (cx : Cx) (hp : cx.pin.length ≤ 0) : LoopOk Tryz.prog cx Tryz.f29.ntmps Q_l_eqByteS (nthLoop Tryz.f29 0) := loop_of (cfgOk_of mixed tys_ok (show FnsOk Tryz.prog C_l_eqByteS from trivial)) hp (all_of (by kernel_rfl : loopsOf (nthLoop Tryz.f29 0) = []) trivial) (by kernel_rfl) lp_l_eqByteS_4
theorem e_l_eqByteS : ∀ d, pcall ⟨lookT tys, ctrOf C_l_eqByteS, kindOf C_l_eqByteS, 3, 4⟩ 0 Q_l_eqByteS Tryz.f29 .plain (mkA P_l_eqByteS d) = (T_l_eqByteS d.1 d.2.1).run fun r => some (O_l_eqByteS r) := fun d => by kernel_rfl
theorem fn_l_eqByteS : Fn Tryz.prog 29 .plain F_l_eqByteS := fn_of (cfgOk_of mixed tys_ok (show FnsOk Tryz.prog C_l_eqByteS from trivial)) Tryz.func29 (by kernel_rfl) (by kernel_rfl) (fun cx b hp hb => all_of (by kernel_rfl : loopsOf (Tryz.f29.body.getD .skip) = [nthLoop Tryz.f29 0]) ⟨lo_l_eqByteS_4 cx hp, trivial⟩ b hb) (R := (Bool × Unit)) (T := fun (d : aden P_l_eqByteS) => T_l_eqByteS d.1 d.2.1) e_l_eqByteS
def P_l_eqByteSS : List (Bool × List Sh) := [(false, [.sl 23 [.sl 5 [.int .u8]]]), (false, [.sl 23 [.sl 5 [.int .u8]]])]
def O_l_eqByteSS (r : (Bool × Unit)) : List RV × List RV := ([rv (false, [.bool]) r], [])
def C_l_eqByteSS : Fns := [(29, .plain, F_l_eqByteS)]
def F_l_eqByteSS : Fun1 := funV P_l_eqByteSS (fun d => (T_l_eqByteSS d.1 d.2.1).val) O_l_eqByteSS
def K_l_eqByteSS_4 : Sk := ⟨[(0, .v false [(.sl 23 [.sl 5 [.int .u8]], .ro)]), (1, .v false [(.sl 23 [.sl 5 [.int .u8]], .ro)]), (5, .v false [(.int .i64, .nil)])], [], []⟩
def X_l_eqByteSS_4 : List (Ex × Sk) := [(.ret, ⟨[(4, .v false [(.bool, .nil)])], [], []⟩), ((.exit 0), ⟨[], [], []⟩)]
def Q_l_eqByteSS : Loops := fun i st => cond (Nat.beq i 4) (lam K_l_eqByteSS_4 5000000 X_l_eqByteSS_4 B_l_eqByteSS_4 st) <| .fail
theorem lp_l_eqByteSS_4 : ∀ d, bod ⟨lookT tys, ctrOf C_l_eqByteSS, kindOf C_l_eqByteSS, 3, 4⟩ 0 Tryz.f81.ntmps Q_l_eqByteSS (nthLoop Tryz.f81 0) K_l_eqByteSS_4 5000000 X_l_eqByteSS_4 d = B_l_eqByteSS_4 d := fun d => by kernel_rfl
theorem lo_l_eqByteSS_4 (cx : Cx) (hp : cx.pin.length ≤ 0) : LoopOk Tryz.prog cx Tryz.f81.ntmps Q_l_eqByteSS (nthLoop Tryz.f81 0) := loop_of (cfgOk_of mixed tys_ok (show FnsOk Tryz.prog C_l_eqByteSS from ⟨fn_l_eqByteS, trivial⟩)) hp (all_of (by kernel_rfl : loopsOf (nthLoop Tryz.f81 0) = []) trivial) (by kernel_rfl) lp_l_eqByteSS_4
theorem e_l_eqByteSS : ∀ d, pcall ⟨lookT tys, ctrOf C_l_eqByteSS, kindOf C_l_eqByteSS, 3, 4⟩ 0 Q_l_eqByteSS Tryz.f81 .plain (mkA P_l_eqByteSS d) = (T_l_eqByteSS d.1 d.2.1).run fun r => some (O_l_eqByteSS r) := fun d => by kernel_rfl
theorem fn_l_eqByteSS : Fn Tryz.prog 81 .plain F_l_eqByteSS := fn_of (cfgOk_of mixed tys_ok (show FnsOk Tryz.prog C_l_eqByteSS from ⟨fn_l_eqByteS, trivial⟩)) Tryz.func81 (by kernel_rfl) (by kernel_rfl) (fun cx b hp hb => all_of (by kernel_rfl : loopsOf (Tryz.f81.body.getD .skip) = [nthLoop Tryz.f81 0]) ⟨lo_l_eqByteSS_4 cx hp, trivial⟩ b hb) (R := (Bool × Unit)) (T := fun (d : aden P_l_eqByteSS) => T_l_eqByteSS d.1 d.2.1) e_l_eqByteSS
def F_l_eqJar : Fun1 := funV [(true, [.sl 5 [.int .u8]]), (true, [.sl 5 [.int .u8]])] (fun d => (T_l_eqJar d.1 d.2.1).val) fun r => ([rv (false, [.bool]) r], [])
theorem fn_l_eqJar : Fn Tryz.prog 82 .plain F_l_eqJar := mkF [(29, .plain, F_l_eqByteS)] ⟨fn_l_eqByteS, trivial⟩ Tryz.func82 (by kernel_rfl) (by kernel_rfl) (by kernel_rfl) 0 fun d => by kernel_rfl
def F_l_eqDice : Fun1 := funV [(true, [.sl 5 [.int .u8], .int .i64]), (true, [.sl 5 [.int .u8], .int .i64])] (fun d => (T_l_eqDice d.1 d.2.1).val) fun r => ([rv (false, [.bool]) r], [])
theorem fn_l_eqDice : Fn Tryz.prog 83 .plain F_l_eqDice := mkF [(29, .plain, F_l_eqByteS)] ⟨fn_l_eqByteS, trivial⟩ Tryz.func83 (by kernel_rfl) (by kernel_rfl) (by kernel_rfl) 0 fun d => by kernel_rfl
def P_l_eqIntS : List (Bool × List Sh) := [(false, [.sl 3 [.int .i64]]), (false, [.sl 3 [.int .i64]])]
def O_l_eqIntS (r : (Bool × Unit)) : List RV × List RV := ([rv (false, [.bool]) r], [])
def C_l_eqIntS : Fns := []
def F_l_eqIntS : Fun1 := funV P_l_eqIntS (fun d => (T_l_eqIntS d.1 d.2.1).val) O_l_eqIntS
def K_l_eqIntS_4 : Sk := ⟨[(0, .v false [(.sl 3 [.int .i64], .ro)]), (1, .v false [(.sl 3 [.int .i64], .ro)]), (5, .v false [(.int .i64, .nil)])], [], []⟩
def X_l_eqIntS_4 : List (Ex × Sk) := [(.ret, ⟨[(4, .v false [(.bool, .nil)])], [], []⟩), ((.exit 0), ⟨[], [], []⟩)]
def Q_l_eqIntS : Loops := fun i st => cond (Nat.beq i 4) (lam K_l_eqIntS_4 5000000 X_l_eqIntS_4 B_l_eqIntS_4 st) <| .fail
theorem lp_l_eqIntS_4 : ∀ d, bod ⟨lookT tys, ctrOf C_l_eqIntS, kindOf C_l_eqIntS, 3, 4⟩ 0 Tryz.f314.ntmps Q_l_eqIntS (nthLoop Tryz.f314 0) K_l_eqIntS_4 5000000 X_l_eqIntS_4 d = B_l_eqIntS_4 d := fun d => by kernel_rfl
theorem lo_l_eqIntS_4 (cx : Cx) (hp : cx.pin.length ≤ 0) : LoopOk Tryz.prog cx Tryz.f314.ntmps Q_l_eqIntS (nthLoop Tryz.f314 0) := loop_of (cfgOk_of mixed tys_ok (show FnsOk Tryz.prog C_l_eqIntS from trivial)) hp (all_of (by kernel_rfl : loopsOf (nthLoop Tryz.f314 0) = []) trivial) (by kernel_rfl) lp_l_eqIntS_4
theorem e_l_eqIntS : ∀ d, pcall ⟨lookT tys, ctrOf C_l_eqIntS, kindOf C_l_eqIntS, 3, 4⟩ 0 Q_l_eqIntS Tryz.f314 .plain (mkA P_l_eqIntS d) = (T_l_eqIntS d.1 d.2.1).run fun r => some (O_l_eqIntS r) := fun d => by kernel_rfl
theorem fn_l_eqIntS : Fn Tryz.prog 314 .plain F_l_eqIntS := fn_of (cfgOk_of mixed tys_ok (show FnsOk Tryz.prog C_l_eqIntS from trivial)) Tryz.func314 (by kernel_rfl) (by kernel_rfl) (fun cx b hp hb => all_of (by kernel_rfl : loopsOf (Tryz.f314.body.getD .skip) = [nthLoop Tryz.f314 0]) ⟨lo_l_eqIntS_4 cx hp, trivial⟩ b hb) (R := (Bool × Unit)) (T := fun (d : aden P_l_eqIntS) => T_l_eqIntS d.1 d.2.1) e_l_eqIntS
def F_l_eqWin : Fun1 := funV [(true, [.int .i64, .sl 3 [.int .i64]]), (true, [.int .i64, .sl 3 [.int .i64]])] (fun d => (T_l_eqWin d.1 d.2.1).val) fun r => ([rv (false, [.bool]) r], [])
theorem fn_l_eqWin : Fn Tryz.prog 279 .plain F_l_eqWin := mkF [(314, .plain, F_l_eqIntS)] ⟨fn_l_eqIntS, trivial⟩ Tryz.func279 (by kernel_rfl) (by kernel_rfl) (by kernel_rfl) 0 fun d => by kernel_rfl
def F_l_eqEp : Fun1 := funV [(true, h_5), (true, h_5)] (fun d => (T_l_eqEp d.1 d.2.1).val) fun r => ([rv (false, [.bool]) r], [])
theorem fn_l_eqEp : Fn Tryz.prog 215 .plain F_l_eqEp := mkF [(29, .plain, F_l_eqByteS), (279, .plain, F_l_eqWin)] ⟨fn_l_eqByteS, fn_l_eqWin, trivial⟩ Tryz.func215 (by kernel_rfl) (by kernel_rfl) (by kernel_rfl) 0 fun d => by kernel_rfl
def F_l_eqChan : Fun1 := funV [(true, h_11), (true, h_11)] (fun d => (T_l_eqChan d.1 d.2.1).val) fun r => ([rv (false, [.bool]) r], [])
theorem fn_l_eqChan : Fn Tryz.prog 114 .plain F_l_eqChan := mkF [(29, .plain, F_l_eqByteS), (215, .plain, F_l_eqEp)] ⟨fn_l_eqByteS, fn_l_eqEp, trivial⟩ Tryz.func114 (by kernel_rfl) (by kernel_rfl) (by kernel_rfl) 0 fun d => by kernel_rfl
def F_l_eqAddr : Fun1 := funV [(true, [.int .i64, .int .i64]), (true, [.int .i64, .int .i64])] (fun d => (T_l_eqAddr d.1 d.2.1).val) fun r => ([rv (false, [.bool]) r], [])
theorem fn_l_eqAddr : Fn Tryz.prog 113 .plain F_l_eqAddr := mkF [] trivial Tryz.func113 (by kernel_rfl) (by kernel_rfl) (by kernel_rfl) 0 fun d => by kernel_rfl
def F_l_eqCand : Fun1 := funV [(true, h_4), (true, h_4)] (fun d => (T_l_eqCand d.1 d.2.1).val) fun r => ([rv (false, [.bool]) r], [])
theorem fn_l_eqCand : Fn Tryz.prog 285 .plain F_l_eqCand := mkF [(113, .plain, F_l_eqAddr), (29, .plain, F_l_eqByteS)] ⟨fn_l_eqAddr, fn_l_eqByteS, trivial⟩ Tryz.func285 (by kernel_rfl) (by kernel_rfl) (by kernel_rfl) 0 fun d => by kernel_rfl
def P_l_eqCandS : List (Bool × List Sh) := [(false, [.sl 274 h_4]), (false, [.sl 274 h_4])]
def O_l_eqCandS (r : (Bool × Unit)) : List RV × List RV := ([rv (false, [.bool]) r], [])
def C_l_eqCandS : Fns := [(285, .plain, F_l_eqCand)]
def F_l_eqCandS : Fun1 := funV P_l_eqCandS (fun d => (T_l_eqCandS d.1 d.2.1).val) O_l_eqCandS
def K_l_eqCandS_4 : Sk := ⟨[(0, .v false [(.sl 274 h_4, .ro)]), (1, .v false [(.sl 274 h_4, .ro)]), (5, .v false [(.int .i64, .nil)])], [], []⟩
def X_l_eqCandS_4 : List (Ex × Sk) := [(.ret, ⟨[(4, .v false [(.bool, .nil)])], [], []⟩), ((.exit 0), ⟨[], [], []⟩)]
def Q_l_eqCandS : Loops := fun i st => cond (Nat.beq i 4) (lam K_l_eqCandS_4 5000000 X_l_eqCandS_4 B_l_eqCandS_4 st) <| .fail
theorem lp_l_eqCandS_4 : ∀ d, bod ⟨lookT tys, ctrOf C_l_eqCandS, kindOf C_l_eqCandS, 3, 4⟩ 0 Tryz.f225.ntmps Q_l_eqCandS (nthLoop Tryz.f225 0) K_l_eqCandS_4 5000000 X_l_eqCandS_4 d = B_l_eqCandS_4 d := fun d => by kernel_rfl
theorem lo_l_eqCandS_4 (cx : Cx) (hp : cx.pin.length ≤ 0) : LoopOk Tryz.prog cx Tryz.f225.ntmps Q_l_eqCandS (nthLoop Tryz.f225 0) := loop_of (cfgOk_of mixed tys_ok (show FnsOk Tryz.prog C_l_eqCandS from ⟨fn_l_eqCand, trivial⟩)) hp (all_of (by kernel_rfl : loopsOf (nthLoop Tryz.f225 0) = []) trivial) (by kernel_rfl) lp_l_eqCandS_4
theorem e_l_eqCandS : ∀ d, pcall ⟨lookT tys, ctrOf C_l_eqCandS, kindOf C_l_eqCandS, 3, 4⟩ 0 Q_l_eqCandS Tryz.f225 .plain (mkA P_l_eqCandS d) = (T_l_eqCandS d.1 d.2.1).run fun r => some (O_l_eqCandS r) := fun d => by kernel_rfl
theorem fn_l_eqCandS : Fn Tryz.prog 225 .plain F_l_eqCandS := fn_of (cfgOk_of mixed tys_ok (show FnsOk Tryz.prog C_l_eqCandS from ⟨fn_l_eqCand, trivial⟩)) Tryz.func225 (by kernel_rfl) (by kernel_rfl) (fun cx b hp hb => all_of (by kernel_rfl : loopsOf (Tryz.f225.body.getD .skip) = [nthLoop Tryz.f225 0]) ⟨lo_l_eqCandS_4 cx hp, trivial⟩ b hb) (R := (Bool × Unit)) (T := fun (d : aden P_l_eqCandS) => T_l_eqCandS d.1 d.2.1) e_l_eqCandS
def F_l_eqPaths : Fun1 := funV [(true, h_7), (true, h_7)] (fun d => (T_l_eqPaths d.1 d.2.1).val) fun r => ([rv (false, [.bool]) r], [])
theorem fn_l_eqPaths : Fn Tryz.prog 125 .plain F_l_eqPaths := mkF [(113, .plain, F_l_eqAddr), (225, .plain, F_l_eqCandS)] ⟨fn_l_eqAddr, fn_l_eqCandS, trivial⟩ Tryz.func125 (by kernel_rfl) (by kernel_rfl) (by kernel_rfl) 0 fun d => by kernel_rfl
def F_l_eqSess : Fun1 := funV [(true, h_13), (true, h_13)] (fun d => (T_l_eqSess d.1 d.2.1).val) fun r => ([rv (false, [.bool]) r], [])
theorem fn_l_eqSess : Fn Tryz.prog 39 .plain F_l_eqSess := mkF [(29, .plain, F_l_eqByteS), (114, .plain, F_l_eqChan), (125, .plain, F_l_eqPaths)] ⟨fn_l_eqByteS, fn_l_eqChan, fn_l_eqPaths, trivial⟩ Tryz.func39 (by kernel_rfl) (by kernel_rfl) (by kernel_rfl) 0 fun d => by kernel_rfl
def P_l_eqSessS : List (Bool × List Sh) := [(false, [.sl 100 h_13]), (false, [.sl 100 h_13])]
def O_l_eqSessS (r : (Bool × Unit)) : List RV × List RV := ([rv (false, [.bool]) r], [])
def C_l_eqSessS : Fns := [(39, .plain, F_l_eqSess)]
def F_l_eqSessS : Fun1 := funV P_l_eqSessS (fun d => (T_l_eqSessS d.1 d.2.1).val) O_l_eqSessS
def K_l_eqSessS_4 : Sk := ⟨[(0, .v false [(.sl 100 h_13, .ro)]), (1, .v false [(.sl 100 h_13, .ro)]), (5, .v false [(.int .i64, .nil)])], [], []⟩
def X_l_eqSessS_4 : List (Ex × Sk) := [(.ret, ⟨[(4, .v false [(.bool, .nil)])], [], []⟩), ((.exit 0), ⟨[], [], []⟩)]
def Q_l_eqSessS : Loops := fun i st => cond (Nat.beq i 4) (lam K_l_eqSessS_4 5000000 X_l_eqSessS_4 B_l_eqSessS_4 st) <| .fail
theorem lp_l_eqSessS_4 : ∀ d, bod ⟨lookT tys, ctrOf C_l_eqSessS, kindOf C_l_eqSessS, 3, 4⟩ 0 Tryz.f191.ntmps Q_l_eqSessS (nthLoop Tryz.f191 0) K_l_eqSessS_4 5000000 X_l_eqSessS_4 d = B_l_eqSessS_4 d := fun d => by kernel_rfl
theorem lo_l_eqSessS_4 (cx : Cx) (hp : cx.pin.length ≤ 0) : LoopOk Tryz.prog cx Tryz.f191.ntmps Q_l_eqSessS (nthLoop Tryz.f191 0) := loop_of (cfgOk_of mixed tys_ok (show FnsOk Tryz.prog C_l_eqSessS from ⟨fn_l_eqSess, trivial⟩)) hp (all_of (by kernel_rfl : loopsOf (nthLoop Tryz.f191 0) = []) trivial) (by kernel_rfl) lp_l_eqSessS_4
theorem e_l_eqSessS : ∀ d, pcall ⟨lookT tys, ctrOf C_l_eqSessS, kindOf C_l_eqSessS, 3, 4⟩ 0 Q_l_eqSessS Tryz.f191 .plain (mkA P_l_eqSessS d) = (T_l_eqSessS d.1 d.2.1).run fun r => some (O_l_eqSessS r) := fun d => by kernel_rfl
theorem fn_l_eqSessS : Fn Tryz.prog 191 .plain F_l_eqSessS := fn_of (cfgOk_of mixed tys_ok (show FnsOk Tryz.prog C_l_eqSessS from ⟨fn_l_eqSess, trivial⟩)) Tryz.func191 (by kernel_rfl) (by kernel_rfl) (fun cx b hp hb => all_of (by kernel_rfl : loopsOf (Tryz.f191.body.getD .skip) = [nthLoop Tryz.f191 0]) ⟨lo_l_eqSessS_4 cx hp, trivial⟩ b hb) (R := (Bool × Unit)) (T := fun (d : aden P_l_eqSessS) => T_l_eqSessS d.1 d.2.1) e_l_eqSessS
def F_l_eqTab : Fun1 := funV [(true, [.int .i64, .sl 100 h_13]), (true, [.int .i64, .sl 100 h_13])] (fun d => (T_l_eqTab d.1 d.2.1).val) fun r => ([rv (false, [.bool]) r], [])
theorem fn_l_eqTab : Fn Tryz.prog 84 .plain F_l_eqTab := mkF [(191, .plain, F_l_eqSessS)] ⟨fn_l_eqSessS, trivial⟩ Tryz.func84 (by kernel_rfl) (by kernel_rfl) (by kernel_rfl) 0 fun d => by kernel_rfl
def F_l_eqCredit : Fun1 := funV [(true, h_2), (true, h_2)] (fun d => (T_l_eqCredit d.1 d.2.1).val) fun r => ([rv (false, [.bool]) r], [])
theorem fn_l_eqCredit : Fn Tryz.prog 192 .plain F_l_eqCredit := mkF [(113, .plain, F_l_eqAddr)] ⟨fn_l_eqAddr, trivial⟩ Tryz.func192 (by kernel_rfl) (by kernel_rfl) (by kernel_rfl) 0 fun d => by kernel_rfl
def P_l_eqCreditS : List (Bool × List Sh) := [(false, [.sl 218 h_2]), (false, [.sl 218 h_2])]
def O_l_eqCreditS (r : (Bool × Unit)) : List RV × List RV := ([rv (false, [.bool]) r], [])
def C_l_eqCreditS : Fns := [(192, .plain, F_l_eqCredit)]
def F_l_eqCreditS : Fun1 := funV P_l_eqCreditS (fun d => (T_l_eqCreditS d.1 d.2.1).val) O_l_eqCreditS
def K_l_eqCreditS_4 : Sk := ⟨[(0, .v false [(.sl 218 h_2, .ro)]), (1, .v false [(.sl 218 h_2, .ro)]), (5, .v false [(.int .i64, .nil)])], [], []⟩
def X_l_eqCreditS_4 : List (Ex × Sk) := [(.ret, ⟨[(4, .v false [(.bool, .nil)])], [], []⟩), ((.exit 0), ⟨[], [], []⟩)]
def Q_l_eqCreditS : Loops := fun i st => cond (Nat.beq i 4) (lam K_l_eqCreditS_4 5000000 X_l_eqCreditS_4 B_l_eqCreditS_4 st) <| .fail
theorem lp_l_eqCreditS_4 : ∀ d, bod ⟨lookT tys, ctrOf C_l_eqCreditS, kindOf C_l_eqCreditS, 3, 4⟩ 0 Tryz.f85.ntmps Q_l_eqCreditS (nthLoop Tryz.f85 0) K_l_eqCreditS_4 5000000 X_l_eqCreditS_4 d = B_l_eqCreditS_4 d := fun d => by kernel_rfl
theorem lo_l_eqCreditS_4 (cx : Cx) (hp : cx.pin.length ≤ 0) : LoopOk Tryz.prog cx Tryz.f85.ntmps Q_l_eqCreditS (nthLoop Tryz.f85 0) := loop_of (cfgOk_of mixed tys_ok (show FnsOk Tryz.prog C_l_eqCreditS from ⟨fn_l_eqCredit, trivial⟩)) hp (all_of (by kernel_rfl : loopsOf (nthLoop Tryz.f85 0) = []) trivial) (by kernel_rfl) lp_l_eqCreditS_4
theorem e_l_eqCreditS : ∀ d, pcall ⟨lookT tys, ctrOf C_l_eqCreditS, kindOf C_l_eqCreditS, 3, 4⟩ 0 Q_l_eqCreditS Tryz.f85 .plain (mkA P_l_eqCreditS d) = (T_l_eqCreditS d.1 d.2.1).run fun r => some (O_l_eqCreditS r) := fun d => by kernel_rfl
theorem fn_l_eqCreditS : Fn Tryz.prog 85 .plain F_l_eqCreditS := fn_of (cfgOk_of mixed tys_ok (show FnsOk Tryz.prog C_l_eqCreditS from ⟨fn_l_eqCredit, trivial⟩)) Tryz.func85 (by kernel_rfl) (by kernel_rfl) (fun cx b hp hb => all_of (by kernel_rfl : loopsOf (Tryz.f85.body.getD .skip) = [nthLoop Tryz.f85 0]) ⟨lo_l_eqCreditS_4 cx hp, trivial⟩ b hb) (R := (Bool × Unit)) (T := fun (d : aden P_l_eqCreditS) => T_l_eqCreditS d.1 d.2.1) e_l_eqCreditS
def F_l_eqServer : Fun1 := funV [(true, h_15), (true, h_15)] (fun d => (T_l_eqServer d.1 d.2.1).val) fun r => ([rv (false, [.bool]) r], [])
theorem fn_l_eqServer : Fn Tryz.prog 16 .plain F_l_eqServer := mkF [(81, .plain, F_l_eqByteSS), (82, .plain, F_l_eqJar), (83, .plain, F_l_eqDice), (84, .plain, F_l_eqTab), (85, .plain, F_l_eqCreditS)] ⟨fn_l_eqByteSS, fn_l_eqJar, fn_l_eqDice, fn_l_eqTab, fn_l_eqCreditS, trivial⟩ Tryz.func16 (by kernel_rfl) (by kernel_rfl) (by kernel_rfl) 0 fun d => by kernel_rfl
def F_l_eqFrame : Fun1 := funV [(true, h_9), (true, h_9)] (fun d => (T_l_eqFrame d.1 d.2.1).val) fun r => ([rv (false, [.bool]) r], [])
theorem fn_l_eqFrame : Fn Tryz.prog 57 .plain F_l_eqFrame := mkF [(29, .plain, F_l_eqByteS)] ⟨fn_l_eqByteS, trivial⟩ Tryz.func57 (by kernel_rfl) (by kernel_rfl) (by kernel_rfl) 0 fun d => by kernel_rfl
def F_l_eqOut : Fun1 := funV [(true, h_10), (true, h_10)] (fun d => (T_l_eqOut d.1 d.2.1).val) fun r => ([rv (false, [.bool]) r], [])
theorem fn_l_eqOut : Fn Tryz.prog 126 .plain F_l_eqOut := mkF [(113, .plain, F_l_eqAddr), (57, .plain, F_l_eqFrame)] ⟨fn_l_eqAddr, fn_l_eqFrame, trivial⟩ Tryz.func126 (by kernel_rfl) (by kernel_rfl) (by kernel_rfl) 0 fun d => by kernel_rfl
def P_l_eqOutS : List (Bool × List Sh) := [(false, [.sl 175 h_10]), (false, [.sl 175 h_10])]
def O_l_eqOutS (r : (Bool × Unit)) : List RV × List RV := ([rv (false, [.bool]) r], [])
def C_l_eqOutS : Fns := [(126, .plain, F_l_eqOut)]
def F_l_eqOutS : Fun1 := funV P_l_eqOutS (fun d => (T_l_eqOutS d.1 d.2.1).val) O_l_eqOutS
def K_l_eqOutS_4 : Sk := ⟨[(0, .v false [(.sl 175 h_10, .ro)]), (1, .v false [(.sl 175 h_10, .ro)]), (5, .v false [(.int .i64, .nil)])], [], []⟩
def X_l_eqOutS_4 : List (Ex × Sk) := [(.ret, ⟨[(4, .v false [(.bool, .nil)])], [], []⟩), ((.exit 0), ⟨[], [], []⟩)]
def Q_l_eqOutS : Loops := fun i st => cond (Nat.beq i 4) (lam K_l_eqOutS_4 5000000 X_l_eqOutS_4 B_l_eqOutS_4 st) <| .fail
theorem lp_l_eqOutS_4 : ∀ d, bod ⟨lookT tys, ctrOf C_l_eqOutS, kindOf C_l_eqOutS, 3, 4⟩ 0 Tryz.f40.ntmps Q_l_eqOutS (nthLoop Tryz.f40 0) K_l_eqOutS_4 5000000 X_l_eqOutS_4 d = B_l_eqOutS_4 d := fun d => by kernel_rfl
theorem lo_l_eqOutS_4 (cx : Cx) (hp : cx.pin.length ≤ 0) : LoopOk Tryz.prog cx Tryz.f40.ntmps Q_l_eqOutS (nthLoop Tryz.f40 0) := loop_of (cfgOk_of mixed tys_ok (show FnsOk Tryz.prog C_l_eqOutS from ⟨fn_l_eqOut, trivial⟩)) hp (all_of (by kernel_rfl : loopsOf (nthLoop Tryz.f40 0) = []) trivial) (by kernel_rfl) lp_l_eqOutS_4
theorem e_l_eqOutS : ∀ d, pcall ⟨lookT tys, ctrOf C_l_eqOutS, kindOf C_l_eqOutS, 3, 4⟩ 0 Q_l_eqOutS Tryz.f40 .plain (mkA P_l_eqOutS d) = (T_l_eqOutS d.1 d.2.1).run fun r => some (O_l_eqOutS r) := fun d => by kernel_rfl
theorem fn_l_eqOutS : Fn Tryz.prog 40 .plain F_l_eqOutS := fn_of (cfgOk_of mixed tys_ok (show FnsOk Tryz.prog C_l_eqOutS from ⟨fn_l_eqOut, trivial⟩)) Tryz.func40 (by kernel_rfl) (by kernel_rfl) (fun cx b hp hb => all_of (by kernel_rfl : loopsOf (Tryz.f40.body.getD .skip) = [nthLoop Tryz.f40 0]) ⟨lo_l_eqOutS_4 cx hp, trivial⟩ b hb) (R := (Bool × Unit)) (T := fun (d : aden P_l_eqOutS) => T_l_eqOutS d.1 d.2.1) e_l_eqOutS
def F_l_eqNote : Fun1 := funV [(true, h_8), (true, h_8)] (fun d => (T_l_eqNote d.1 d.2.1).val) fun r => ([rv (false, [.bool]) r], [])
theorem fn_l_eqNote : Fn Tryz.prog 86 .plain F_l_eqNote := mkF [(29, .plain, F_l_eqByteS), (113, .plain, F_l_eqAddr)] ⟨fn_l_eqByteS, fn_l_eqAddr, trivial⟩ Tryz.func86 (by kernel_rfl) (by kernel_rfl) (by kernel_rfl) 0 fun d => by kernel_rfl
def P_l_eqNoteS : List (Bool × List Sh) := [(false, [.sl 139 h_8]), (false, [.sl 139 h_8])]
def O_l_eqNoteS (r : (Bool × Unit)) : List RV × List RV := ([rv (false, [.bool]) r], [])
def C_l_eqNoteS : Fns := [(86, .plain, F_l_eqNote)]
def F_l_eqNoteS : Fun1 := funV P_l_eqNoteS (fun d => (T_l_eqNoteS d.1 d.2.1).val) O_l_eqNoteS
def K_l_eqNoteS_4 : Sk := ⟨[(0, .v false [(.sl 139 h_8, .ro)]), (1, .v false [(.sl 139 h_8, .ro)]), (5, .v false [(.int .i64, .nil)])], [], []⟩
def X_l_eqNoteS_4 : List (Ex × Sk) := [(.ret, ⟨[(4, .v false [(.bool, .nil)])], [], []⟩), ((.exit 0), ⟨[], [], []⟩)]
def Q_l_eqNoteS : Loops := fun i st => cond (Nat.beq i 4) (lam K_l_eqNoteS_4 5000000 X_l_eqNoteS_4 B_l_eqNoteS_4 st) <| .fail
theorem lp_l_eqNoteS_4 : ∀ d, bod ⟨lookT tys, ctrOf C_l_eqNoteS, kindOf C_l_eqNoteS, 3, 4⟩ 0 Tryz.f17.ntmps Q_l_eqNoteS (nthLoop Tryz.f17 0) K_l_eqNoteS_4 5000000 X_l_eqNoteS_4 d = B_l_eqNoteS_4 d := fun d => by kernel_rfl
theorem lo_l_eqNoteS_4 (cx : Cx) (hp : cx.pin.length ≤ 0) : LoopOk Tryz.prog cx Tryz.f17.ntmps Q_l_eqNoteS (nthLoop Tryz.f17 0) := loop_of (cfgOk_of mixed tys_ok (show FnsOk Tryz.prog C_l_eqNoteS from ⟨fn_l_eqNote, trivial⟩)) hp (all_of (by kernel_rfl : loopsOf (nthLoop Tryz.f17 0) = []) trivial) (by kernel_rfl) lp_l_eqNoteS_4
theorem e_l_eqNoteS : ∀ d, pcall ⟨lookT tys, ctrOf C_l_eqNoteS, kindOf C_l_eqNoteS, 3, 4⟩ 0 Q_l_eqNoteS Tryz.f17 .plain (mkA P_l_eqNoteS d) = (T_l_eqNoteS d.1 d.2.1).run fun r => some (O_l_eqNoteS r) := fun d => by kernel_rfl
theorem fn_l_eqNoteS : Fn Tryz.prog 17 .plain F_l_eqNoteS := fn_of (cfgOk_of mixed tys_ok (show FnsOk Tryz.prog C_l_eqNoteS from ⟨fn_l_eqNote, trivial⟩)) Tryz.func17 (by kernel_rfl) (by kernel_rfl) (fun cx b hp hb => all_of (by kernel_rfl : loopsOf (Tryz.f17.body.getD .skip) = [nthLoop Tryz.f17 0]) ⟨lo_l_eqNoteS_4 cx hp, trivial⟩ b hb) (R := (Bool × Unit)) (T := fun (d : aden P_l_eqNoteS) => T_l_eqNoteS d.1 d.2.1) e_l_eqNoteS
def P_l_markByteS : List (Bool × List Sh) := [(false, [.sl 5 [.int .u8]]), (false, [.int .i64])]
def O_l_markByteS (r : (YI) × (YBs)) : List RV × List RV := ([rv (false, [.int .i64]) r.1], [rv (false, [.sl 5 [.int .u8]]) r.2])
def C_l_markByteS : Fns := []
def F_l_markByteS : Fun1 := funV P_l_markByteS (fun d => (T_l_markByteS d.1 d.2.1).val) O_l_markByteS
def K_l_markByteS_2 : Sk := ⟨[(0, .v false [(.sl 5 [.int .u8], (.own 3000000))]), (1, .v false [(.int .i64, .nil)]), (5, .v false [(.int .i64, .nil)])], [], [3000000]⟩
def X_l_markByteS_2 : List (Ex × Sk) := [((.exit 0), ⟨[(0, .v false [(.sl 5 [.int .u8], (.own 3000000))]), (1, .v false [(.int .i64, .nil)])], [], [3000000]⟩)]
def Q_l_markByteS : Loops := fun i st => cond (Nat.beq i 2) (lam K_l_markByteS_2 3000000 X_l_markByteS_2 B_l_markByteS_2 st) <| .fail
theorem lp_l_markByteS_2 : ∀ d, bod ⟨lookT tys, ctrOf C_l_markByteS, kindOf C_l_markByteS, 3, 4⟩ 1 Tryz.f31.ntmps Q_l_markByteS (nthLoop Tryz.f31 0) K_l_markByteS_2 3000000 X_l_markByteS_2 d = B_l_markByteS_2 d := fun d => by kernel_rfl
theorem lo_l_markByteS_2 (cx : Cx) (hp : cx.pin.length ≤ 1) : LoopOk Tryz.prog cx Tryz.f31.ntmps Q_l_markByteS (nthLoop Tryz.f31 0) := loop_of (cfgOk_of mixed tys_ok (show FnsOk Tryz.prog C_l_markByteS from trivial)) hp (all_of (by kernel_rfl : loopsOf (nthLoop Tryz.f31 0) = []) trivial) (by kernel_rfl) lp_l_markByteS_2
theorem e_l_markByteS : ∀ d, pcall ⟨lookT tys, ctrOf C_l_markByteS, kindOf C_l_markByteS, 3, 4⟩ 1 Q_l_markByteS Tryz.f31 (.lend [1]) (mkA P_l_markByteS d) = (T_l_markByteS d.1 d.2.1).run fun r => some (O_l_markByteS r) := fun d => by kernel_rfl
theorem fn_l_markByteS : Fn Tryz.prog 31 (.lend [1]) F_l_markByteS := fn_of (cfgOk_of mixed tys_ok (show FnsOk Tryz.prog C_l_markByteS from trivial)) Tryz.func31 (by kernel_rfl) (by kernel_rfl) (fun cx b hp hb => all_of (by kernel_rfl : loopsOf (Tryz.f31.body.getD .skip) = [nthLoop Tryz.f31 0]) ⟨lo_l_markByteS_2 cx hp, trivial⟩ b hb) (R := (YI) × (YBs)) (T := fun (d : aden P_l_markByteS) => T_l_markByteS d.1 d.2.1) e_l_markByteS
def P_l_markByteSS : List (Bool × List Sh) := [(false, [.sl 23 [.sl 5 [.int .u8]]]), (false, [.int .i64])]
def O_l_markByteSS (r : (YI) × ((List YBs) × Unit)) : List RV × List RV := ([rv (false, [.int .i64]) r.1], [rv (false, [.sl 23 [.sl 5 [.int .u8]]]) r.2])
def C_l_markByteSS : Fns := [(31, (.lend [1]), F_l_markByteS)]
def F_l_markByteSS : Fun1 := funV P_l_markByteSS (fun d => (T_l_markByteSS d.1 d.2.1).val) O_l_markByteSS
def K_l_markByteSS_2 : Sk := ⟨[(0, .v false [(.sl 23 [.sl 5 [.int .u8]], (.own 3000000))]), (1, .v false [(.int .i64, .nil)]), (5, .v false [(.int .i64, .nil)])], [], [3000000]⟩
def X_l_markByteSS_2 : List (Ex × Sk) := [((.exit 0), ⟨[(0, .v false [(.sl 23 [.sl 5 [.int .u8]], (.own 3000000))]), (1, .v false [(.int .i64, .nil)])], [], [3000000]⟩)]
def Q_l_markByteSS : Loops := fun i st => cond (Nat.beq i 2) (lam K_l_markByteSS_2 3000000 X_l_markByteSS_2 B_l_markByteSS_2 st) <| .fail
theorem lp_l_markByteSS_2 : ∀ d, bod ⟨lookT tys, ctrOf C_l_markByteSS, kindOf C_l_markByteSS, 3, 4⟩ 1 Tryz.f87.ntmps Q_l_markByteSS (nthLoop Tryz.f87 0) K_l_markByteSS_2 3000000 X_l_markByteSS_2 d = B_l_markByteSS_2 d := fun d => by kernel_rfl
theorem lo_l_markByteSS_2 (cx : Cx) (hp : cx.pin.length ≤ 1) : LoopOk Tryz.prog cx Tryz.f87.ntmps Q_l_markByteSS (nthLoop Tryz.f87 0) := loop_of (cfgOk_of mixed tys_ok (show FnsOk Tryz.prog C_l_markByteSS from ⟨fn_l_markByteS, trivial⟩)) hp (all_of (by kernel_rfl : loopsOf (nthLoop Tryz.f87 0) = []) trivial) (by kernel_rfl) lp_l_markByteSS_2
theorem e_l_markByteSS : ∀ d, pcall ⟨lookT tys, ctrOf C_l_markByteSS, kindOf C_l_markByteSS, 3, 4⟩ 1 Q_l_markByteSS Tryz.f87 (.lend [1]) (mkA P_l_markByteSS d) = (T_l_markByteSS d.1 d.2.1).run fun r => some (O_l_markByteSS r) := fun d => by kernel_rfl
theorem fn_l_markByteSS : Fn Tryz.prog 87 (.lend [1]) F_l_markByteSS := fn_of (cfgOk_of mixed tys_ok (show FnsOk Tryz.prog C_l_markByteSS from ⟨fn_l_markByteS, trivial⟩)) Tryz.func87 (by kernel_rfl) (by kernel_rfl) (fun cx b hp hb => all_of (by kernel_rfl : loopsOf (Tryz.f87.body.getD .skip) = [nthLoop Tryz.f87 0]) ⟨lo_l_markByteSS_2 cx hp, trivial⟩ b hb) (R := (YI) × ((List YBs) × Unit)) (T := fun (d : aden P_l_markByteSS) => T_l_markByteSS d.1 d.2.1) e_l_markByteSS
def F_l_markJar : Fun1 := funV [(true, [.sl 5 [.int .u8]]), (false, [.int .i64])] (fun d => (T_l_markJar d.1 d.2.1).val) fun r => ([rv (false, [.int .i64]) r.1], [rv (true, [.sl 5 [.int .u8]]) r.2])
theorem fn_l_markJar : Fn Tryz.prog 88 (.lend [1]) F_l_markJar := mkF [(31, (.lend [1]), F_l_markByteS)] ⟨fn_l_markByteS, trivial⟩ Tryz.func88 (by kernel_rfl) (by kernel_rfl) (by kernel_rfl) 1 fun d => by kernel_rfl
def F_l_markDice : Fun1 := funV [(true, [.sl 5 [.int .u8], .int .i64]), (false, [.int .i64])] (fun d => (T_l_markDice d.1 d.2.1).val) fun r => ([rv (false, [.int .i64]) r.1], [rv (true, [.sl 5 [.int .u8], .int .i64]) r.2])
theorem fn_l_markDice : Fn Tryz.prog 89 (.lend [1]) F_l_markDice := mkF [(31, (.lend [1]), F_l_markByteS)] ⟨fn_l_markByteS, trivial⟩ Tryz.func89 (by kernel_rfl) (by kernel_rfl) (by kernel_rfl) 1 fun d => by kernel_rfl
def P_l_markIntS : List (Bool × List Sh) := [(false, [.sl 3 [.int .i64]]), (false, [.int .i64])]
def O_l_markIntS (r : (YI) × ((List YI) × Unit)) : List RV × List RV := ([rv (false, [.int .i64]) r.1], [rv (false, [.sl 3 [.int .i64]]) r.2])
def C_l_markIntS : Fns := []
def F_l_markIntS : Fun1 := funV P_l_markIntS (fun d => (T_l_markIntS d.1 d.2.1).val) O_l_markIntS
def K_l_markIntS_2 : Sk := ⟨[(0, .v false [(.sl 3 [.int .i64], (.own 3000000))]), (1, .v false [(.int .i64, .nil)]), (5, .v false [(.int .i64, .nil)])], [], [3000000]⟩
def X_l_markIntS_2 : List (Ex × Sk) := [((.exit 0), ⟨[(0, .v false [(.sl 3 [.int .i64], (.own 3000000))]), (1, .v false [(.int .i64, .nil)])], [], [3000000]⟩)]
def Q_l_markIntS : Loops := fun i st => cond (Nat.beq i 2) (lam K_l_markIntS_2 3000000 X_l_markIntS_2 B_l_markIntS_2 st) <| .fail
theorem lp_l_markIntS_2 : ∀ d, bod ⟨lookT tys, ctrOf C_l_markIntS, kindOf C_l_markIntS, 3, 4⟩ 1 Tryz.f262.ntmps Q_l_markIntS (nthLoop Tryz.f262 0) K_l_markIntS_2 3000000 X_l_markIntS_2 d = B_l_markIntS_2 d := fun d => by kernel_rfl
theorem lo_l_markIntS_2 (cx : Cx) (hp : cx.pin.length ≤ 1) : LoopOk Tryz.prog cx Tryz.f262.ntmps Q_l_markIntS (nthLoop Tryz.f262 0) := loop_of (cfgOk_of mixed tys_ok (show FnsOk Tryz.prog C_l_markIntS from trivial)) hp (all_of (by kernel_rfl : loopsOf (nthLoop Tryz.f262 0) = []) trivial) (by kernel_rfl) lp_l_markIntS_2
theorem e_l_markIntS : ∀ d, pcall ⟨lookT tys, ctrOf C_l_markIntS, kindOf C_l_markIntS, 3, 4⟩ 1 Q_l_markIntS Tryz.f262 (.lend [1]) (mkA P_l_markIntS d) = (T_l_markIntS d.1 d.2.1).run fun r => some (O_l_markIntS r) := fun d => by kernel_rfl
theorem fn_l_markIntS : Fn Tryz.prog 262 (.lend [1]) F_l_markIntS := fn_of (cfgOk_of mixed tys_ok (show FnsOk Tryz.prog C_l_markIntS from trivial)) Tryz.func262 (by kernel_rfl) (by kernel_rfl) (fun cx b hp hb => all_of (by kernel_rfl : loopsOf (Tryz.f262.body.getD .skip) = [nthLoop Tryz.f262 0]) ⟨lo_l_markIntS_2 cx hp, trivial⟩ b hb) (R := (YI) × ((List YI) × Unit)) (T := fun (d : aden P_l_markIntS) => T_l_markIntS d.1 d.2.1) e_l_markIntS
def P_l_markCandS : List (Bool × List Sh) := [(false, [.sl 274 h_4]), (false, [.int .i64])]
def O_l_markCandS (r : (YI) × ((List YCand) × Unit)) : List RV × List RV := ([rv (false, [.int .i64]) r.1], [rv (false, [.sl 274 h_4]) r.2])
def C_l_markCandS : Fns := [(31, (.lend [1]), F_l_markByteS)]
def F_l_markCandS : Fun1 := funV P_l_markCandS (fun d => (T_l_markCandS d.1 d.2.1).val) O_l_markCandS
def K_l_markCandS_2 : Sk := ⟨[(0, .v false [(.sl 274 h_4, (.own 3000000))]), (1, .v false [(.int .i64, .nil)]), (5, .v false [(.int .i64, .nil)])], [], [3000000]⟩
def X_l_markCandS_2 : List (Ex × Sk) := [((.exit 0), ⟨[(0, .v false [(.sl 274 h_4, (.own 3000000))]), (1, .v false [(.int .i64, .nil)])], [], [3000000]⟩)]
def Q_l_markCandS : Loops := fun i st => cond (Nat.beq i 2) (lam K_l_markCandS_2 3000000 X_l_markCandS_2 B_l_markCandS_2 st) <| .fail
theorem lp_l_markCandS_2 : ∀ d, bod ⟨lookT tys, ctrOf C_l_markCandS, kindOf C_l_markCandS, 3, 4⟩ 1 Tryz.f226.ntmps Q_l_markCandS (nthLoop Tryz.f226 0) K_l_markCandS_2 3000000 X_l_markCandS_2 d = B_l_markCandS_2 d := fun d => by kernel_rfl
theorem lo_l_markCandS_2 (cx : Cx) (hp : cx.pin.length ≤ 1) : LoopOk Tryz.prog cx Tryz.f226.ntmps Q_l_markCandS (nthLoop Tryz.f226 0) := loop_of (cfgOk_of mixed tys_ok (show FnsOk Tryz.prog C_l_markCandS from ⟨fn_l_markByteS, trivial⟩)) hp (all_of (by kernel_rfl : loopsOf (nthLoop Tryz.f226 0) = []) trivial) (by kernel_rfl) lp_l_markCandS_2
theorem e_l_markCandS : ∀ d, pcall ⟨lookT tys, ctrOf C_l_markCandS, kindOf C_l_markCandS, 3, 4⟩ 1 Q_l_markCandS Tryz.f226 (.lend [1]) (mkA P_l_markCandS d) = (T_l_markCandS d.1 d.2.1).run fun r => some (O_l_markCandS r) := fun d => by kernel_rfl
theorem fn_l_markCandS : Fn Tryz.prog 226 (.lend [1]) F_l_markCandS := fn_of (cfgOk_of mixed tys_ok (show FnsOk Tryz.prog C_l_markCandS from ⟨fn_l_markByteS, trivial⟩)) Tryz.func226 (by kernel_rfl) (by kernel_rfl) (fun cx b hp hb => all_of (by kernel_rfl : loopsOf (Tryz.f226.body.getD .skip) = [nthLoop Tryz.f226 0]) ⟨lo_l_markCandS_2 cx hp, trivial⟩ b hb) (R := (YI) × ((List YCand) × Unit)) (T := fun (d : aden P_l_markCandS) => T_l_markCandS d.1 d.2.1) e_l_markCandS
def P_l_markSessS : List (Bool × List Sh) := [(false, [.sl 100 h_13]), (false, [.int .i64])]
def O_l_markSessS (r : (YI) × ((List YSess) × Unit)) : List RV × List RV := ([rv (false, [.int .i64]) r.1], [rv (false, [.sl 100 h_13]) r.2])
def C_l_markSessS : Fns := [(31, (.lend [1]), F_l_markByteS), (262, (.lend [1]), F_l_markIntS), (226, (.lend [1]), F_l_markCandS)]
def F_l_markSessS : Fun1 := funV P_l_markSessS (fun d => (T_l_markSessS d.1 d.2.1).val) O_l_markSessS
def K_l_markSessS_2 : Sk := ⟨[(0, .v false [(.sl 100 h_13, (.own 3000000))]), (1, .v false [(.int .i64, .nil)]), (5, .v false [(.int .i64, .nil)])], [], [3000000]⟩
def X_l_markSessS_2 : List (Ex × Sk) := [((.exit 0), ⟨[(0, .v false [(.sl 100 h_13, (.own 3000000))]), (1, .v false [(.int .i64, .nil)])], [], [3000000]⟩)]
def Q_l_markSessS : Loops := fun i st => cond (Nat.beq i 2) (lam K_l_markSessS_2 3000000 X_l_markSessS_2 B_l_markSessS_2 st) <| .fail
theorem lp_l_markSessS_2 : ∀ d, bod ⟨lookT tys, ctrOf C_l_markSessS, kindOf C_l_markSessS, 3, 4⟩ 1 Tryz.f193.ntmps Q_l_markSessS (nthLoop Tryz.f193 0) K_l_markSessS_2 3000000 X_l_markSessS_2 d = B_l_markSessS_2 d := fun d => by kernel_rfl
theorem lo_l_markSessS_2 (cx : Cx) (hp : cx.pin.length ≤ 1) : LoopOk Tryz.prog cx Tryz.f193.ntmps Q_l_markSessS (nthLoop Tryz.f193 0) := loop_of (cfgOk_of mixed tys_ok (show FnsOk Tryz.prog C_l_markSessS from ⟨fn_l_markByteS, fn_l_markIntS, fn_l_markCandS, trivial⟩)) hp (all_of (by kernel_rfl : loopsOf (nthLoop Tryz.f193 0) = []) trivial) (by kernel_rfl) lp_l_markSessS_2
theorem e_l_markSessS : ∀ d, pcall ⟨lookT tys, ctrOf C_l_markSessS, kindOf C_l_markSessS, 3, 4⟩ 1 Q_l_markSessS Tryz.f193 (.lend [1]) (mkA P_l_markSessS d) = (T_l_markSessS d.1 d.2.1).run fun r => some (O_l_markSessS r) := fun d => by kernel_rfl
theorem fn_l_markSessS : Fn Tryz.prog 193 (.lend [1]) F_l_markSessS := fn_of (cfgOk_of mixed tys_ok (show FnsOk Tryz.prog C_l_markSessS from ⟨fn_l_markByteS, fn_l_markIntS, fn_l_markCandS, trivial⟩)) Tryz.func193 (by kernel_rfl) (by kernel_rfl) (fun cx b hp hb => all_of (by kernel_rfl : loopsOf (Tryz.f193.body.getD .skip) = [nthLoop Tryz.f193 0]) ⟨lo_l_markSessS_2 cx hp, trivial⟩ b hb) (R := (YI) × ((List YSess) × Unit)) (T := fun (d : aden P_l_markSessS) => T_l_markSessS d.1 d.2.1) e_l_markSessS
def F_l_markTab : Fun1 := funV [(true, [.int .i64, .sl 100 h_13]), (false, [.int .i64])] (fun d => (T_l_markTab d.1 d.2.1).val) fun r => ([rv (false, [.int .i64]) r.1], [rv (true, [.int .i64, .sl 100 h_13]) r.2])
theorem fn_l_markTab : Fn Tryz.prog 90 (.lend [1]) F_l_markTab := mkF [(193, (.lend [1]), F_l_markSessS)] ⟨fn_l_markSessS, trivial⟩ Tryz.func90 (by kernel_rfl) (by kernel_rfl) (by kernel_rfl) 1 fun d => by kernel_rfl
def P_l_markCreditS : List (Bool × List Sh) := [(false, [.sl 218 h_2]), (false, [.int .i64])]
def O_l_markCreditS (r : (YI) × ((List YCredit) × Unit)) : List RV × List RV := ([rv (false, [.int .i64]) r.1], [rv (false, [.sl 218 h_2]) r.2])
def C_l_markCreditS : Fns := []
def F_l_markCreditS : Fun1 := funV P_l_markCreditS (fun d => (T_l_markCreditS d.1 d.2.1).val) O_l_markCreditS
def K_l_markCreditS_2 : Sk := ⟨[(0, .v false [(.sl 218 h_2, (.own 3000000))]), (1, .v false [(.int .i64, .nil)]), (5, .v false [(.int .i64, .nil)])], [], [3000000]⟩
def X_l_markCreditS_2 : List (Ex × Sk) := [((.exit 0), ⟨[(0, .v false [(.sl 218 h_2, (.own 3000000))]), (1, .v false [(.int .i64, .nil)])], [], [3000000]⟩)]
def Q_l_markCreditS : Loops := fun i st => cond (Nat.beq i 2) (lam K_l_markCreditS_2 3000000 X_l_markCreditS_2 B_l_markCreditS_2 st) <| .fail
theorem lp_l_markCreditS_2 : ∀ d, bod ⟨lookT tys, ctrOf C_l_markCreditS, kindOf C_l_markCreditS, 3, 4⟩ 1 Tryz.f91.ntmps Q_l_markCreditS (nthLoop Tryz.f91 0) K_l_markCreditS_2 3000000 X_l_markCreditS_2 d = B_l_markCreditS_2 d := fun d => by kernel_rfl
theorem lo_l_markCreditS_2 (cx : Cx) (hp : cx.pin.length ≤ 1) : LoopOk Tryz.prog cx Tryz.f91.ntmps Q_l_markCreditS (nthLoop Tryz.f91 0) := loop_of (cfgOk_of mixed tys_ok (show FnsOk Tryz.prog C_l_markCreditS from trivial)) hp (all_of (by kernel_rfl : loopsOf (nthLoop Tryz.f91 0) = []) trivial) (by kernel_rfl) lp_l_markCreditS_2
theorem e_l_markCreditS : ∀ d, pcall ⟨lookT tys, ctrOf C_l_markCreditS, kindOf C_l_markCreditS, 3, 4⟩ 1 Q_l_markCreditS Tryz.f91 (.lend [1]) (mkA P_l_markCreditS d) = (T_l_markCreditS d.1 d.2.1).run fun r => some (O_l_markCreditS r) := fun d => by kernel_rfl
theorem fn_l_markCreditS : Fn Tryz.prog 91 (.lend [1]) F_l_markCreditS := fn_of (cfgOk_of mixed tys_ok (show FnsOk Tryz.prog C_l_markCreditS from trivial)) Tryz.func91 (by kernel_rfl) (by kernel_rfl) (fun cx b hp hb => all_of (by kernel_rfl : loopsOf (Tryz.f91.body.getD .skip) = [nthLoop Tryz.f91 0]) ⟨lo_l_markCreditS_2 cx hp, trivial⟩ b hb) (R := (YI) × ((List YCredit) × Unit)) (T := fun (d : aden P_l_markCreditS) => T_l_markCreditS d.1 d.2.1) e_l_markCreditS
def F_l_markServer : Fun1 := funV [(true, h_15), (false, [.int .i64])] (fun d => (T_l_markServer d.1 d.2.1).val) fun r => ([rv (false, [.int .i64]) r.1], [rv (true, h_15) r.2])
theorem fn_l_markServer : Fn Tryz.prog 18 (.lend [1]) F_l_markServer := mkF [(87, (.lend [1]), F_l_markByteSS), (88, (.lend [1]), F_l_markJar), (89, (.lend [1]), F_l_markDice), (90, (.lend [1]), F_l_markTab), (91, (.lend [1]), F_l_markCreditS)] ⟨fn_l_markByteSS, fn_l_markJar, fn_l_markDice, fn_l_markTab, fn_l_markCreditS, trivial⟩ Tryz.func18 (by kernel_rfl) (by kernel_rfl) (by kernel_rfl) 1 fun d => by kernel_rfl
def P_l_markOutS : List (Bool × List Sh) := [(false, [.sl 175 h_10]), (false, [.int .i64])]
def O_l_markOutS (r : (YI) × ((List YOut) × Unit)) : List RV × List RV := ([rv (false, [.int .i64]) r.1], [rv (false, [.sl 175 h_10]) r.2])
def C_l_markOutS : Fns := [(31, (.lend [1]), F_l_markByteS)]
def F_l_markOutS : Fun1 := funV P_l_markOutS (fun d => (T_l_markOutS d.1 d.2.1).val) O_l_markOutS
def K_l_markOutS_2 : Sk := ⟨[(0, .v false [(.sl 175 h_10, (.own 3000000))]), (1, .v false [(.int .i64, .nil)]), (5, .v false [(.int .i64, .nil)])], [], [3000000]⟩
def X_l_markOutS_2 : List (Ex × Sk) := [((.exit 0), ⟨[(0, .v false [(.sl 175 h_10, (.own 3000000))]), (1, .v false [(.int .i64, .nil)])], [], [3000000]⟩)]
def Q_l_markOutS : Loops := fun i st => cond (Nat.beq i 2) (lam K_l_markOutS_2 3000000 X_l_markOutS_2 B_l_markOutS_2 st) <| .fail
theorem lp_l_markOutS_2 : ∀ d, bod ⟨lookT tys, ctrOf C_l_markOutS, kindOf C_l_markOutS, 3, 4⟩ 1 Tryz.f42.ntmps Q_l_markOutS (nthLoop Tryz.f42 0) K_l_markOutS_2 3000000 X_l_markOutS_2 d = B_l_markOutS_2 d := fun d => by kernel_rfl
theorem lo_l_markOutS_2 (cx : Cx) (hp : cx.pin.length ≤ 1) : LoopOk Tryz.prog cx Tryz.f42.ntmps Q_l_markOutS (nthLoop Tryz.f42 0) := loop_of (cfgOk_of mixed tys_ok (show FnsOk Tryz.prog C_l_markOutS from ⟨fn_l_markByteS, trivial⟩)) hp (all_of (by kernel_rfl : loopsOf (nthLoop Tryz.f42 0) = []) trivial) (by kernel_rfl) lp_l_markOutS_2
theorem e_l_markOutS : ∀ d, pcall ⟨lookT tys, ctrOf C_l_markOutS, kindOf C_l_markOutS, 3, 4⟩ 1 Q_l_markOutS Tryz.f42 (.lend [1]) (mkA P_l_markOutS d) = (T_l_markOutS d.1 d.2.1).run fun r => some (O_l_markOutS r) := fun d => by kernel_rfl
theorem fn_l_markOutS : Fn Tryz.prog 42 (.lend [1]) F_l_markOutS := fn_of (cfgOk_of mixed tys_ok (show FnsOk Tryz.prog C_l_markOutS from ⟨fn_l_markByteS, trivial⟩)) Tryz.func42 (by kernel_rfl) (by kernel_rfl) (fun cx b hp hb => all_of (by kernel_rfl : loopsOf (Tryz.f42.body.getD .skip) = [nthLoop Tryz.f42 0]) ⟨lo_l_markOutS_2 cx hp, trivial⟩ b hb) (R := (YI) × ((List YOut) × Unit)) (T := fun (d : aden P_l_markOutS) => T_l_markOutS d.1 d.2.1) e_l_markOutS
def P_l_markNoteS : List (Bool × List Sh) := [(false, [.sl 139 h_8]), (false, [.int .i64])]
def O_l_markNoteS (r : (YI) × ((List YNote) × Unit)) : List RV × List RV := ([rv (false, [.int .i64]) r.1], [rv (false, [.sl 139 h_8]) r.2])
def C_l_markNoteS : Fns := [(31, (.lend [1]), F_l_markByteS)]
def F_l_markNoteS : Fun1 := funV P_l_markNoteS (fun d => (T_l_markNoteS d.1 d.2.1).val) O_l_markNoteS
def K_l_markNoteS_2 : Sk := ⟨[(0, .v false [(.sl 139 h_8, (.own 3000000))]), (1, .v false [(.int .i64, .nil)]), (5, .v false [(.int .i64, .nil)])], [], [3000000]⟩
def X_l_markNoteS_2 : List (Ex × Sk) := [((.exit 0), ⟨[(0, .v false [(.sl 139 h_8, (.own 3000000))]), (1, .v false [(.int .i64, .nil)])], [], [3000000]⟩)]
def Q_l_markNoteS : Loops := fun i st => cond (Nat.beq i 2) (lam K_l_markNoteS_2 3000000 X_l_markNoteS_2 B_l_markNoteS_2 st) <| .fail
theorem lp_l_markNoteS_2 : ∀ d, bod ⟨lookT tys, ctrOf C_l_markNoteS, kindOf C_l_markNoteS, 3, 4⟩ 1 Tryz.f19.ntmps Q_l_markNoteS (nthLoop Tryz.f19 0) K_l_markNoteS_2 3000000 X_l_markNoteS_2 d = B_l_markNoteS_2 d := fun d => by kernel_rfl
theorem lo_l_markNoteS_2 (cx : Cx) (hp : cx.pin.length ≤ 1) : LoopOk Tryz.prog cx Tryz.f19.ntmps Q_l_markNoteS (nthLoop Tryz.f19 0) := loop_of (cfgOk_of mixed tys_ok (show FnsOk Tryz.prog C_l_markNoteS from ⟨fn_l_markByteS, trivial⟩)) hp (all_of (by kernel_rfl : loopsOf (nthLoop Tryz.f19 0) = []) trivial) (by kernel_rfl) lp_l_markNoteS_2
theorem e_l_markNoteS : ∀ d, pcall ⟨lookT tys, ctrOf C_l_markNoteS, kindOf C_l_markNoteS, 3, 4⟩ 1 Q_l_markNoteS Tryz.f19 (.lend [1]) (mkA P_l_markNoteS d) = (T_l_markNoteS d.1 d.2.1).run fun r => some (O_l_markNoteS r) := fun d => by kernel_rfl
theorem fn_l_markNoteS : Fn Tryz.prog 19 (.lend [1]) F_l_markNoteS := fn_of (cfgOk_of mixed tys_ok (show FnsOk Tryz.prog C_l_markNoteS from ⟨fn_l_markByteS, trivial⟩)) Tryz.func19 (by kernel_rfl) (by kernel_rfl) (fun cx b hp hb => all_of (by kernel_rfl : loopsOf (Tryz.f19.body.getD .skip) = [nthLoop Tryz.f19 0]) ⟨lo_l_markNoteS_2 cx hp, trivial⟩ b hb) (R := (YI) × ((List YNote) × Unit)) (T := fun (d : aden P_l_markNoteS) => T_l_markNoteS d.1 d.2.1) e_l_markNoteS
def P_l_heldByteS : List (Bool × List Sh) := [(false, [.sl 5 [.int .u8]]), (false, [.int .i64])]
def O_l_heldByteS (r : (YI)) : List RV × List RV := ([rv (false, [.int .i64]) r], [])
def C_l_heldByteS : Fns := []
def F_l_heldByteS : Fun1 := funV P_l_heldByteS (fun d => (T_l_heldByteS d.1 d.2.1).val) O_l_heldByteS
def K_l_heldByteS_2 : Sk := ⟨[(0, .v false [(.sl 5 [.int .u8], .ro)]), (1, .v false [(.int .i64, .nil)]), (5, .v false [(.int .i64, .nil)])], [], []⟩
def X_l_heldByteS_2 : List (Ex × Sk) := [(.ret, ⟨[(4, .v false [(.int .i64, .nil)])], [], []⟩), ((.exit 0), ⟨[(1, .v false [(.int .i64, .nil)])], [], []⟩)]
def Q_l_heldByteS : Loops := fun i st => cond (Nat.beq i 2) (lam K_l_heldByteS_2 3000000 X_l_heldByteS_2 B_l_heldByteS_2 st) <| .fail
theorem lp_l_heldByteS_2 : ∀ d, bod ⟨lookT tys, ctrOf C_l_heldByteS, kindOf C_l_heldByteS, 3, 4⟩ 0 Tryz.f97.ntmps Q_l_heldByteS (nthLoop Tryz.f97 0) K_l_heldByteS_2 3000000 X_l_heldByteS_2 d = B_l_heldByteS_2 d := fun d => by kernel_rfl
theorem lo_l_heldByteS_2 (cx : Cx) (hp : cx.pin.length ≤ 0) : LoopOk Tryz.prog cx Tryz.f97.ntmps Q_l_heldByteS (nthLoop Tryz.f97 0) := loop_of (cfgOk_of mixed tys_ok (show FnsOk Tryz.prog C_l_heldByteS from trivial)) hp (all_of (by kernel_rfl : loopsOf (nthLoop Tryz.f97 0) = []) trivial) (by kernel_rfl) lp_l_heldByteS_2
theorem e_l_heldByteS : ∀ d, pcall ⟨lookT tys, ctrOf C_l_heldByteS, kindOf C_l_heldByteS, 3, 4⟩ 0 Q_l_heldByteS Tryz.f97 .plain (mkA P_l_heldByteS d) = (T_l_heldByteS d.1 d.2.1).run fun r => some (O_l_heldByteS r) := fun d => by kernel_rfl
theorem fn_l_heldByteS : Fn Tryz.prog 97 .plain F_l_heldByteS := fn_of (cfgOk_of mixed tys_ok (show FnsOk Tryz.prog C_l_heldByteS from trivial)) Tryz.func97 (by kernel_rfl) (by kernel_rfl) (fun cx b hp hb => all_of (by kernel_rfl : loopsOf (Tryz.f97.body.getD .skip) = [nthLoop Tryz.f97 0]) ⟨lo_l_heldByteS_2 cx hp, trivial⟩ b hb) (R := (YI)) (T := fun (d : aden P_l_heldByteS) => T_l_heldByteS d.1 d.2.1) e_l_heldByteS
def P_l_heldByteSS : List (Bool × List Sh) := [(false, [.sl 23 [.sl 5 [.int .u8]]]), (false, [.int .i64])]
def O_l_heldByteSS (r : (YI)) : List RV × List RV := ([rv (false, [.int .i64]) r], [])
def C_l_heldByteSS : Fns := [(97, .plain, F_l_heldByteS)]
def F_l_heldByteSS : Fun1 := funV P_l_heldByteSS (fun d => (T_l_heldByteSS d.1 d.2.1).val) O_l_heldByteSS
def K_l_heldByteSS_2 : Sk := ⟨[(0, .v false [(.sl 23 [.sl 5 [.int .u8]], .ro)]), (1, .v false [(.int .i64, .nil)]), (5, .v false [(.int .i64, .nil)])], [], []⟩
def X_l_heldByteSS_2 : List (Ex × Sk) := [(.ret, ⟨[(4, .v false [(.int .i64, .nil)])], [], []⟩), ((.exit 0), ⟨[(1, .v false [(.int .i64, .nil)])], [], []⟩)]
def Q_l_heldByteSS : Loops := fun i st => cond (Nat.beq i 2) (lam K_l_heldByteSS_2 3000000 X_l_heldByteSS_2 B_l_heldByteSS_2 st) <| .fail
theorem lp_l_heldByteSS_2 : ∀ d, bod ⟨lookT tys, ctrOf C_l_heldByteSS, kindOf C_l_heldByteSS, 3, 4⟩ 0 Tryz.f92.ntmps Q_l_heldByteSS (nthLoop Tryz.f92 0) K_l_heldByteSS_2 3000000 X_l_heldByteSS_2 d = B_l_heldByteSS_2 d := fun d => by kernel_rfl
theorem lo_l_heldByteSS_2 (cx : Cx) (hp : cx.pin.length ≤ 0) : LoopOk Tryz.prog cx Tryz.f92.ntmps Q_l_heldByteSS (nthLoop Tryz.f92 0) := loop_of (cfgOk_of mixed tys_ok (show FnsOk Tryz.prog C_l_heldByteSS from ⟨fn_l_heldByteS, trivial⟩)) hp (all_of (by kernel_rfl : loopsOf (nthLoop Tryz.f92 0) = []) trivial) (by kernel_rfl) lp_l_heldByteSS_2
theorem e_l_heldByteSS : ∀ d, pcall ⟨lookT tys, ctrOf C_l_heldByteSS, kindOf C_l_heldByteSS, 3, 4⟩ 0 Q_l_heldByteSS Tryz.f92 .plain (mkA P_l_heldByteSS d) = (T_l_heldByteSS d.1 d.2.1).run fun r => some (O_l_heldByteSS r) := fun d => by kernel_rfl
theorem fn_l_heldByteSS : Fn Tryz.prog 92 .plain F_l_heldByteSS := fn_of (cfgOk_of mixed tys_ok (show FnsOk Tryz.prog C_l_heldByteSS from ⟨fn_l_heldByteS, trivial⟩)) Tryz.func92 (by kernel_rfl) (by kernel_rfl) (fun cx b hp hb => all_of (by kernel_rfl : loopsOf (Tryz.f92.body.getD .skip) = [nthLoop Tryz.f92 0]) ⟨lo_l_heldByteSS_2 cx hp, trivial⟩ b hb) (R := (YI)) (T := fun (d : aden P_l_heldByteSS) => T_l_heldByteSS d.1 d.2.1) e_l_heldByteSS
def F_l_heldJar : Fun1 := funV [(true, [.sl 5 [.int .u8]]), (false, [.int .i64])] (fun d => (T_l_heldJar d.1 d.2.1).val) fun r => ([rv (false, [.int .i64]) r], [])
theorem fn_l_heldJar : Fn Tryz.prog 93 .plain F_l_heldJar := mkF [(97, .plain, F_l_heldByteS)] ⟨fn_l_heldByteS, trivial⟩ Tryz.func93 (by kernel_rfl) (by kernel_rfl) (by kernel_rfl) 0 fun d => by kernel_rfl
def F_l_heldDice : Fun1 := funV [(true, [.sl 5 [.int .u8], .int .i64]), (false, [.int .i64])] (fun d => (T_l_heldDice d.1 d.2.1).val) fun r => ([rv (false, [.int .i64]) r], [])
theorem fn_l_heldDice : Fn Tryz.prog 94 .plain F_l_heldDice := mkF [(97, .plain, F_l_heldByteS)] ⟨fn_l_heldByteS, trivial⟩ Tryz.func94 (by kernel_rfl) (by kernel_rfl) (by kernel_rfl) 0 fun d => by kernel_rfl
def P_l_heldIntS : List (Bool × List Sh) := [(false, [.sl 3 [.int .i64]]), (false, [.int .i64])]
def O_l_heldIntS (r : (YI)) : List RV × List RV := ([rv (false, [.int .i64]) r], [])
def C_l_heldIntS : Fns := []
def F_l_heldIntS : Fun1 := funV P_l_heldIntS (fun d => (T_l_heldIntS d.1 d.2.1).val) O_l_heldIntS
def K_l_heldIntS_2 : Sk := ⟨[(0, .v false [(.sl 3 [.int .i64], .ro)]), (1, .v false [(.int .i64, .nil)]), (5, .v false [(.int .i64, .nil)])], [], []⟩
def X_l_heldIntS_2 : List (Ex × Sk) := [(.ret, ⟨[(4, .v false [(.int .i64, .nil)])], [], []⟩), ((.exit 0), ⟨[(1, .v false [(.int .i64, .nil)])], [], []⟩)]
def Q_l_heldIntS : Loops := fun i st => cond (Nat.beq i 2) (lam K_l_heldIntS_2 3000000 X_l_heldIntS_2 B_l_heldIntS_2 st) <| .fail
theorem lp_l_heldIntS_2 : ∀ d, bod ⟨lookT tys, ctrOf C_l_heldIntS, kindOf C_l_heldIntS, 3, 4⟩ 0 Tryz.f263.ntmps Q_l_heldIntS (nthLoop Tryz.f263 0) K_l_heldIntS_2 3000000 X_l_heldIntS_2 d = B_l_heldIntS_2 d := fun d => by kernel_rfl
theorem lo_l_heldIntS_2 (cx : Cx) (hp : cx.pin.length ≤ 0) : LoopOk Tryz.prog cx Tryz.f263.ntmps Q_l_heldIntS (nthLoop Tryz.f263 0) := loop_of (cfgOk_of mixed tys_ok (show FnsOk Tryz.prog C_l_heldIntS from trivial)) hp (all_of (by kernel_rfl : loopsOf (nthLoop Tryz.f263 0) = []) trivial) (by kernel_rfl) lp_l_heldIntS_2
theorem e_l_heldIntS : ∀ d, pcall ⟨lookT tys, ctrOf C_l_heldIntS, kindOf C_l_heldIntS, 3, 4⟩ 0 Q_l_heldIntS Tryz.f263 .plain (mkA P_l_heldIntS d) = (T_l_heldIntS d.1 d.2.1).run fun r => some (O_l_heldIntS r) := fun d => by kernel_rfl
theorem fn_l_heldIntS : Fn Tryz.prog 263 .plain F_l_heldIntS := fn_of (cfgOk_of mixed tys_ok (show FnsOk Tryz.prog C_l_heldIntS from trivial)) Tryz.func263 (by kernel_rfl) (by kernel_rfl) (fun cx b hp hb => all_of (by kernel_rfl : loopsOf (Tryz.f263.body.getD .skip) = [nthLoop Tryz.f263 0]) ⟨lo_l_heldIntS_2 cx hp, trivial⟩ b hb) (R := (YI)) (T := fun (d : aden P_l_heldIntS) => T_l_heldIntS d.1 d.2.1) e_l_heldIntS
def P_l_heldCandS : List (Bool × List Sh) := [(false, [.sl 274 h_4]), (false, [.int .i64])]
def O_l_heldCandS (r : (YI)) : List RV × List RV := ([rv (false, [.int .i64]) r], [])
def C_l_heldCandS : Fns := [(97, .plain, F_l_heldByteS)]
def F_l_heldCandS : Fun1 := funV P_l_heldCandS (fun d => (T_l_heldCandS d.1 d.2.1).val) O_l_heldCandS
def K_l_heldCandS_2 : Sk := ⟨[(0, .v false [(.sl 274 h_4, .ro)]), (1, .v false [(.int .i64, .nil)]), (5, .v false [(.int .i64, .nil)])], [], []⟩
def X_l_heldCandS_2 : List (Ex × Sk) := [(.ret, ⟨[(4, .v false [(.int .i64, .nil)])], [], []⟩), ((.exit 0), ⟨[(1, .v false [(.int .i64, .nil)])], [], []⟩)]
def Q_l_heldCandS : Loops := fun i st => cond (Nat.beq i 2) (lam K_l_heldCandS_2 3000000 X_l_heldCandS_2 B_l_heldCandS_2 st) <| .fail
theorem lp_l_heldCandS_2 : ∀ d, bod ⟨lookT tys, ctrOf C_l_heldCandS, kindOf C_l_heldCandS, 3, 4⟩ 0 Tryz.f227.ntmps Q_l_heldCandS (nthLoop Tryz.f227 0) K_l_heldCandS_2 3000000 X_l_heldCandS_2 d = B_l_heldCandS_2 d := fun d => by kernel_rfl
theorem lo_l_heldCandS_2 (cx : Cx) (hp : cx.pin.length ≤ 0) : LoopOk Tryz.prog cx Tryz.f227.ntmps Q_l_heldCandS (nthLoop Tryz.f227 0) := loop_of (cfgOk_of mixed tys_ok (show FnsOk Tryz.prog C_l_heldCandS from ⟨fn_l_heldByteS, trivial⟩)) hp (all_of (by kernel_rfl : loopsOf (nthLoop Tryz.f227 0) = []) trivial) (by kernel_rfl) lp_l_heldCandS_2
theorem e_l_heldCandS : ∀ d, pcall ⟨lookT tys, ctrOf C_l_heldCandS, kindOf C_l_heldCandS, 3, 4⟩ 0 Q_l_heldCandS Tryz.f227 .plain (mkA P_l_heldCandS d) = (T_l_heldCandS d.1 d.2.1).run fun r => some (O_l_heldCandS r) := fun d => by kernel_rfl
theorem fn_l_heldCandS : Fn Tryz.prog 227 .plain F_l_heldCandS := fn_of (cfgOk_of mixed tys_ok (show FnsOk Tryz.prog C_l_heldCandS from ⟨fn_l_heldByteS, trivial⟩)) Tryz.func227 (by kernel_rfl) (by kernel_rfl) (fun cx b hp hb => all_of (by kernel_rfl : loopsOf (Tryz.f227.body.getD .skip) = [nthLoop Tryz.f227 0]) ⟨lo_l_heldCandS_2 cx hp, trivial⟩ b hb) (R := (YI)) (T := fun (d : aden P_l_heldCandS) => T_l_heldCandS d.1 d.2.1) e_l_heldCandS
def P_l_heldSessS : List (Bool × List Sh) := [(false, [.sl 100 h_13]), (false, [.int .i64])]
def O_l_heldSessS (r : (YI)) : List RV × List RV := ([rv (false, [.int .i64]) r], [])
def C_l_heldSessS : Fns := [(97, .plain, F_l_heldByteS), (263, .plain, F_l_heldIntS), (227, .plain, F_l_heldCandS)]
def F_l_heldSessS : Fun1 := funV P_l_heldSessS (fun d => (T_l_heldSessS d.1 d.2.1).val) O_l_heldSessS
def K_l_heldSessS_2 : Sk := ⟨[(0, .v false [(.sl 100 h_13, .ro)]), (1, .v false [(.int .i64, .nil)]), (5, .v false [(.int .i64, .nil)])], [], []⟩
def X_l_heldSessS_2 : List (Ex × Sk) := [(.ret, ⟨[(4, .v false [(.int .i64, .nil)])], [], []⟩), ((.exit 0), ⟨[(1, .v false [(.int .i64, .nil)])], [], []⟩)]
def Q_l_heldSessS : Loops := fun i st => cond (Nat.beq i 2) (lam K_l_heldSessS_2 3000000 X_l_heldSessS_2 B_l_heldSessS_2 st) <| .fail
theorem lp_l_heldSessS_2 : ∀ d, bod ⟨lookT tys, ctrOf C_l_heldSessS, kindOf C_l_heldSessS, 3, 4⟩ 0 Tryz.f194.ntmps Q_l_heldSessS (nthLoop Tryz.f194 0) K_l_heldSessS_2 3000000 X_l_heldSessS_2 d = B_l_heldSessS_2 d := fun d => by kernel_rfl
theorem lo_l_heldSessS_2 (cx : Cx) (hp : cx.pin.length ≤ 0) : LoopOk Tryz.prog cx Tryz.f194.ntmps Q_l_heldSessS (nthLoop Tryz.f194 0) := loop_of (cfgOk_of mixed tys_ok (show FnsOk Tryz.prog C_l_heldSessS from ⟨fn_l_heldByteS, fn_l_heldIntS, fn_l_heldCandS, trivial⟩)) hp (all_of (by kernel_rfl : loopsOf (nthLoop Tryz.f194 0) = []) trivial) (by kernel_rfl) lp_l_heldSessS_2
theorem e_l_heldSessS : ∀ d, pcall ⟨lookT tys, ctrOf C_l_heldSessS, kindOf C_l_heldSessS, 3, 4⟩ 0 Q_l_heldSessS Tryz.f194 .plain (mkA P_l_heldSessS d) = (T_l_heldSessS d.1 d.2.1).run fun r => some (O_l_heldSessS r) := fun d => by kernel_rfl
theorem fn_l_heldSessS : Fn Tryz.prog 194 .plain F_l_heldSessS := fn_of (cfgOk_of mixed tys_ok (show FnsOk Tryz.prog C_l_heldSessS from ⟨fn_l_heldByteS, fn_l_heldIntS, fn_l_heldCandS, trivial⟩)) Tryz.func194 (by kernel_rfl) (by kernel_rfl) (fun cx b hp hb => all_of (by kernel_rfl : loopsOf (Tryz.f194.body.getD .skip) = [nthLoop Tryz.f194 0]) ⟨lo_l_heldSessS_2 cx hp, trivial⟩ b hb) (R := (YI)) (T := fun (d : aden P_l_heldSessS) => T_l_heldSessS d.1 d.2.1) e_l_heldSessS
def F_l_heldTab : Fun1 := funV [(true, [.int .i64, .sl 100 h_13]), (false, [.int .i64])] (fun d => (T_l_heldTab d.1 d.2.1).val) fun r => ([rv (false, [.int .i64]) r], [])
theorem fn_l_heldTab : Fn Tryz.prog 95 .plain F_l_heldTab := mkF [(194, .plain, F_l_heldSessS)] ⟨fn_l_heldSessS, trivial⟩ Tryz.func95 (by kernel_rfl) (by kernel_rfl) (by kernel_rfl) 0 fun d => by kernel_rfl
def P_l_heldCreditS : List (Bool × List Sh) := [(false, [.sl 218 h_2]), (false, [.int .i64])]
def O_l_heldCreditS (r : (YI)) : List RV × List RV := ([rv (false, [.int .i64]) r], [])
def C_l_heldCreditS : Fns := []
def F_l_heldCreditS : Fun1 := funV P_l_heldCreditS (fun d => (T_l_heldCreditS d.1 d.2.1).val) O_l_heldCreditS
def K_l_heldCreditS_2 : Sk := ⟨[(0, .v false [(.sl 218 h_2, .ro)]), (1, .v false [(.int .i64, .nil)]), (5, .v false [(.int .i64, .nil)])], [], []⟩
def X_l_heldCreditS_2 : List (Ex × Sk) := [(.ret, ⟨[(4, .v false [(.int .i64, .nil)])], [], []⟩), ((.exit 0), ⟨[(1, .v false [(.int .i64, .nil)])], [], []⟩)]
def Q_l_heldCreditS : Loops := fun i st => cond (Nat.beq i 2) (lam K_l_heldCreditS_2 3000000 X_l_heldCreditS_2 B_l_heldCreditS_2 st) <| .fail
theorem lp_l_heldCreditS_2 : ∀ d, bod ⟨lookT tys, ctrOf C_l_heldCreditS, kindOf C_l_heldCreditS, 3, 4⟩ 0 Tryz.f96.ntmps Q_l_heldCreditS (nthLoop Tryz.f96 0) K_l_heldCreditS_2 3000000 X_l_heldCreditS_2 d = B_l_heldCreditS_2 d := fun d => by kernel_rfl
theorem lo_l_heldCreditS_2 (cx : Cx) (hp : cx.pin.length ≤ 0) : LoopOk Tryz.prog cx Tryz.f96.ntmps Q_l_heldCreditS (nthLoop Tryz.f96 0) := loop_of (cfgOk_of mixed tys_ok (show FnsOk Tryz.prog C_l_heldCreditS from trivial)) hp (all_of (by kernel_rfl : loopsOf (nthLoop Tryz.f96 0) = []) trivial) (by kernel_rfl) lp_l_heldCreditS_2
theorem e_l_heldCreditS : ∀ d, pcall ⟨lookT tys, ctrOf C_l_heldCreditS, kindOf C_l_heldCreditS, 3, 4⟩ 0 Q_l_heldCreditS Tryz.f96 .plain (mkA P_l_heldCreditS d) = (T_l_heldCreditS d.1 d.2.1).run fun r => some (O_l_heldCreditS r) := fun d => by kernel_rfl
theorem fn_l_heldCreditS : Fn Tryz.prog 96 .plain F_l_heldCreditS := fn_of (cfgOk_of mixed tys_ok (show FnsOk Tryz.prog C_l_heldCreditS from trivial)) Tryz.func96 (by kernel_rfl) (by kernel_rfl) (fun cx b hp hb => all_of (by kernel_rfl : loopsOf (Tryz.f96.body.getD .skip) = [nthLoop Tryz.f96 0]) ⟨lo_l_heldCreditS_2 cx hp, trivial⟩ b hb) (R := (YI)) (T := fun (d : aden P_l_heldCreditS) => T_l_heldCreditS d.1 d.2.1) e_l_heldCreditS
def F_l_heldServer : Fun1 := funV [(true, h_15), (false, [.int .i64])] (fun d => (T_l_heldServer d.1 d.2.1).val) fun r => ([rv (false, [.int .i64]) r], [])
theorem fn_l_heldServer : Fn Tryz.prog 20 .plain F_l_heldServer := mkF [(92, .plain, F_l_heldByteSS), (93, .plain, F_l_heldJar), (94, .plain, F_l_heldDice), (95, .plain, F_l_heldTab), (96, .plain, F_l_heldCreditS)] ⟨fn_l_heldByteSS, fn_l_heldJar, fn_l_heldDice, fn_l_heldTab, fn_l_heldCreditS, trivial⟩ Tryz.func20 (by kernel_rfl) (by kernel_rfl) (by kernel_rfl) 0 fun d => by kernel_rfl
def P_l_heldOutS : List (Bool × List Sh) := [(false, [.sl 175 h_10]), (false, [.int .i64])]
def O_l_heldOutS (r : (YI)) : List RV × List RV := ([rv (false, [.int .i64]) r], [])
def C_l_heldOutS : Fns := [(97, .plain, F_l_heldByteS)]
def F_l_heldOutS : Fun1 := funV P_l_heldOutS (fun d => (T_l_heldOutS d.1 d.2.1).val) O_l_heldOutS
def K_l_heldOutS_2 : Sk := ⟨[(0, .v false [(.sl 175 h_10, .ro)]), (1, .v false [(.int .i64, .nil)]), (5, .v false [(.int .i64, .nil)])], [], []⟩
def X_l_heldOutS_2 : List (Ex × Sk) := [(.ret, ⟨[(4, .v false [(.int .i64, .nil)])], [], []⟩), ((.exit 0), ⟨[(1, .v false [(.int .i64, .nil)])], [], []⟩)]
def Q_l_heldOutS : Loops := fun i st => cond (Nat.beq i 2) (lam K_l_heldOutS_2 3000000 X_l_heldOutS_2 B_l_heldOutS_2 st) <| .fail
theorem lp_l_heldOutS_2 : ∀ d, bod ⟨lookT tys, ctrOf C_l_heldOutS, kindOf C_l_heldOutS, 3, 4⟩ 0 Tryz.f44.ntmps Q_l_heldOutS (nthLoop Tryz.f44 0) K_l_heldOutS_2 3000000 X_l_heldOutS_2 d = B_l_heldOutS_2 d := fun d => by kernel_rfl
theorem lo_l_heldOutS_2 (cx : Cx) (hp : cx.pin.length ≤ 0) : LoopOk Tryz.prog cx Tryz.f44.ntmps Q_l_heldOutS (nthLoop Tryz.f44 0) := loop_of (cfgOk_of mixed tys_ok (show FnsOk Tryz.prog C_l_heldOutS from ⟨fn_l_heldByteS, trivial⟩)) hp (all_of (by kernel_rfl : loopsOf (nthLoop Tryz.f44 0) = []) trivial) (by kernel_rfl) lp_l_heldOutS_2
theorem e_l_heldOutS : ∀ d, pcall ⟨lookT tys, ctrOf C_l_heldOutS, kindOf C_l_heldOutS, 3, 4⟩ 0 Q_l_heldOutS Tryz.f44 .plain (mkA P_l_heldOutS d) = (T_l_heldOutS d.1 d.2.1).run fun r => some (O_l_heldOutS r) := fun d => by kernel_rfl
theorem fn_l_heldOutS : Fn Tryz.prog 44 .plain F_l_heldOutS := fn_of (cfgOk_of mixed tys_ok (show FnsOk Tryz.prog C_l_heldOutS from ⟨fn_l_heldByteS, trivial⟩)) Tryz.func44 (by kernel_rfl) (by kernel_rfl) (fun cx b hp hb => all_of (by kernel_rfl : loopsOf (Tryz.f44.body.getD .skip) = [nthLoop Tryz.f44 0]) ⟨lo_l_heldOutS_2 cx hp, trivial⟩ b hb) (R := (YI)) (T := fun (d : aden P_l_heldOutS) => T_l_heldOutS d.1 d.2.1) e_l_heldOutS
def P_l_heldNoteS : List (Bool × List Sh) := [(false, [.sl 139 h_8]), (false, [.int .i64])]
def O_l_heldNoteS (r : (YI)) : List RV × List RV := ([rv (false, [.int .i64]) r], [])
def C_l_heldNoteS : Fns := [(97, .plain, F_l_heldByteS)]
def F_l_heldNoteS : Fun1 := funV P_l_heldNoteS (fun d => (T_l_heldNoteS d.1 d.2.1).val) O_l_heldNoteS
def K_l_heldNoteS_2 : Sk := ⟨[(0, .v false [(.sl 139 h_8, .ro)]), (1, .v false [(.int .i64, .nil)]), (5, .v false [(.int .i64, .nil)])], [], []⟩
def X_l_heldNoteS_2 : List (Ex × Sk) := [(.ret, ⟨[(4, .v false [(.int .i64, .nil)])], [], []⟩), ((.exit 0), ⟨[(1, .v false [(.int .i64, .nil)])], [], []⟩)]
def Q_l_heldNoteS : Loops := fun i st => cond (Nat.beq i 2) (lam K_l_heldNoteS_2 3000000 X_l_heldNoteS_2 B_l_heldNoteS_2 st) <| .fail
theorem lp_l_heldNoteS_2 : ∀ d, bod ⟨lookT tys, ctrOf C_l_heldNoteS, kindOf C_l_heldNoteS, 3, 4⟩ 0 Tryz.f21.ntmps Q_l_heldNoteS (nthLoop Tryz.f21 0) K_l_heldNoteS_2 3000000 X_l_heldNoteS_2 d = B_l_heldNoteS_2 d := fun d => by kernel_rfl
theorem lo_l_heldNoteS_2 (cx : Cx) (hp : cx.pin.length ≤ 0) : LoopOk Tryz.prog cx Tryz.f21.ntmps Q_l_heldNoteS (nthLoop Tryz.f21 0) := loop_of (cfgOk_of mixed tys_ok (show FnsOk Tryz.prog C_l_heldNoteS from ⟨fn_l_heldByteS, trivial⟩)) hp (all_of (by kernel_rfl : loopsOf (nthLoop Tryz.f21 0) = []) trivial) (by kernel_rfl) lp_l_heldNoteS_2
theorem e_l_heldNoteS : ∀ d, pcall ⟨lookT tys, ctrOf C_l_heldNoteS, kindOf C_l_heldNoteS, 3, 4⟩ 0 Q_l_heldNoteS Tryz.f21 .plain (mkA P_l_heldNoteS d) = (T_l_heldNoteS d.1 d.2.1).run fun r => some (O_l_heldNoteS r) := fun d => by kernel_rfl
theorem fn_l_heldNoteS : Fn Tryz.prog 21 .plain F_l_heldNoteS := fn_of (cfgOk_of mixed tys_ok (show FnsOk Tryz.prog C_l_heldNoteS from ⟨fn_l_heldByteS, trivial⟩)) Tryz.func21 (by kernel_rfl) (by kernel_rfl) (fun cx b hp hb => all_of (by kernel_rfl : loopsOf (Tryz.f21.body.getD .skip) = [nthLoop Tryz.f21 0]) ⟨lo_l_heldNoteS_2 cx hp, trivial⟩ b hb) (R := (YI)) (T := fun (d : aden P_l_heldNoteS) => T_l_heldNoteS d.1 d.2.1) e_l_heldNoteS
def P_l_FnExactServerSend : List (Bool × List Sh) := [(true, h_14), (false, [.int .i64]), (false, [.int .i64]), (false, [.sl 5 [.int .u8]])]
def O_l_FnExactServerSend (r : (Bool × Unit)) : List RV × List RV := ([rv (false, [.bool]) r], [])
def C_l_FnExactServerSend : Fns := [(12, .plain, F_l_szServer), (14, .plain, F_l_toServer), (25, .plain, F_l_toByteS), (59, .plain, F_s_ServerSend), (60, .plain, F_i_ServerSend), (16, .plain, F_l_eqServer), (40, .plain, F_l_eqOutS), (17, .plain, F_l_eqNoteS), (29, .plain, F_l_eqByteS), (18, (.lend [1]), F_l_markServer), (31, (.lend [1]), F_l_markByteS), (42, (.lend [1]), F_l_markOutS), (19, (.lend [1]), F_l_markNoteS), (20, .plain, F_l_heldServer), (44, .plain, F_l_heldOutS), (21, .plain, F_l_heldNoteS)]
def F_l_FnExactServerSend : Fun1 := funV P_l_FnExactServerSend (fun d => (T_l_FnExactServerSend d.1 d.2.1 d.2.2.1 d.2.2.2.1).val) O_l_FnExactServerSend
def Q_l_FnExactServerSend : Loops := fun _ _ => .fail
theorem e_l_FnExactServerSend : ∀ d, pcall ⟨lookT tys, ctrOf C_l_FnExactServerSend, kindOf C_l_FnExactServerSend, 3, 4⟩ 0 Q_l_FnExactServerSend Tryz.f11 .plain (mkA P_l_FnExactServerSend d) = (T_l_FnExactServerSend d.1 d.2.1 d.2.2.1 d.2.2.2.1).run fun r => some (O_l_FnExactServerSend r) := fun d => by kernel_rfl
theorem fn_l_FnExactServerSend : Fn Tryz.prog 11 .plain F_l_FnExactServerSend := fn_of (cfgOk_of mixed tys_ok (show FnsOk Tryz.prog C_l_FnExactServerSend from ⟨fn_l_szServer, fn_l_toServer, fn_l_toByteS, fn_s_ServerSend, fn_i_ServerSend, fn_l_eqServer, fn_l_eqOutS, fn_l_eqNoteS, fn_l_eqByteS, fn_l_markServer, fn_l_markByteS, fn_l_markOutS, fn_l_markNoteS, fn_l_heldServer, fn_l_heldOutS, fn_l_heldNoteS, trivial⟩)) Tryz.func11 (by kernel_rfl) (by kernel_rfl) (fun cx b hp hb => all_of (by kernel_rfl : loopsOf (Tryz.f11.body.getD .skip) = []) trivial b hb) (R := (Bool × Unit)) (T := fun (d : aden P_l_FnExactServerSend) => T_l_FnExactServerSend d.1 d.2.1 d.2.2.1 d.2.2.2.1) e_l_FnExactServerSend
end
end Go.Proofs.YtdlcjpjflckdlaaGreat

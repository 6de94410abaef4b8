/-
  That the functions of the seat answer what the terms of text W say; nothing is assumed.
-/
import Derived.Test.YtdlcjpjflckdlaaGreatW
import Derived.Test.YtdlcjpjflckdlaaGreatProg
import Derived.KernelRfl
namespace Go.Proofs.YtdlcjpjflckdlaaGreat
open Go.RowKit
set_option linter.unusedVariables false
set_option maxRecDepth 100000
set_option maxHeartbeats 4000000
noncomputable section
abbrev h_0 : List Sh := [.int .i64, .int .i64, .bool, .int .u8]
abbrev h_1 : List Sh := [.bool, .int .i64, .int .i64, .int .i64]
abbrev h_2 : List Sh := [.int .i64, .int .i64, .int .i64, .int .i64]
abbrev h_3 : List Sh := [.sl 3 [.int .i64], .sl 5 [.int .u8], .int .i64]
abbrev h_4 : List Sh := [.int .i64, .int .i64, .sl 5 [.int .u8], .int .i64]
abbrev h_5 : List Sh := [.int .i64, .sl 5 [.int .u8], .int .i64, .int .i64, .sl 3 [.int .i64]]
abbrev h_6 : List Sh := [.int .i64, .int .i64, .sl 272 h_4]
abbrev h_7 : List Sh := [.int .i64, .int .i64, .sl 274 h_4]
abbrev h_8 : List Sh := [.int .i64, .int .i64, .int .i64, .sl 5 [.int .u8], .sl 5 [.int .u8], .int .i64, .int .i64, .sl 5 [.int .u8], .sl 5 [.int .u8], .int .i64, .int .i64, .int .i64]
abbrev h_9 : List Sh := [.int .i64, .int .i64, .sl 5 [.int .u8], .sl 5 [.int .u8], .int .i64, .sl 5 [.int .u8], .sl 5 [.int .u8], .int .i64, .int .i64, .sl 5 [.int .u8], .sl 5 [.int .u8]]
abbrev h_10 : List Sh := [.int .i64, .int .i64, .int .i64, .int .i64, .sl 5 [.int .u8], .sl 5 [.int .u8], .int .i64, .sl 5 [.int .u8], .sl 5 [.int .u8], .int .i64, .int .i64, .sl 5 [.int .u8], .sl 5 [.int .u8]]
abbrev h_11 : List Sh := [.int .i64, .sl 5 [.int .u8], .int .i64, .sl 5 [.int .u8], .int .i64, .int .i64, .sl 3 [.int .i64], .int .i64, .sl 5 [.int .u8], .int .i64, .int .i64, .sl 3 [.int .i64], .bool, .int .i64, .sl 5 [.int .u8]]
abbrev h_12 : List Sh := [.int .i64, .sl 5 [.int .u8], .sl 5 [.int .u8], .int .i64, .sl 5 [.int .u8], .int .i64, .sl 5 [.int .u8], .int .i64, .int .i64, .sl 3 [.int .i64], .int .i64, .sl 5 [.int .u8], .int .i64, .int .i64, .sl 3 [.int .i64], .bool, .int .i64, .sl 5 [.int .u8], .int .i64, .int .i64, .sl 272 h_4, .int .i64, .int .i64, .bool]
abbrev h_13 : List Sh := [.int .i64, .sl 5 [.int .u8], .sl 5 [.int .u8], .int .i64, .sl 5 [.int .u8], .int .i64, .sl 5 [.int .u8], .int .i64, .int .i64, .sl 3 [.int .i64], .int .i64, .sl 5 [.int .u8], .int .i64, .int .i64, .sl 3 [.int .i64], .bool, .int .i64, .sl 5 [.int .u8], .int .i64, .int .i64, .sl 274 h_4, .int .i64, .int .i64, .bool]
abbrev h_14 : List Sh := [.sl 23 [.sl 5 [.int .u8]], .sl 5 [.int .u8], .sl 5 [.int .u8], .int .i64, .int .i64, .sl 94 h_12, .sl 221 h_2]
abbrev h_15 : List Sh := [.sl 23 [.sl 5 [.int .u8]], .sl 5 [.int .u8], .sl 5 [.int .u8], .int .i64, .int .i64, .sl 100 h_13, .sl 218 h_2]
abbrev h_16 : List Sh := [.int .i64, .sl 5 [.int .u8], .int .i64, .int .i64, .int .i64, .sl 5 [.int .u8], .int .i64, .int .i64, .sl 5 [.int .u8], .sl 5 [.int .u8], .int .i64, .sl 5 [.int .u8], .sl 5 [.int .u8], .int .i64, .int .i64, .sl 5 [.int .u8], .sl 5 [.int .u8], .int .i64, .sl 5 [.int .u8], .int .i64, .sl 5 [.int .u8], .int .i64, .int .i64, .sl 3 [.int .i64], .int .i64, .sl 5 [.int .u8], .int .i64, .int .i64, .sl 3 [.int .i64], .bool, .int .i64, .sl 5 [.int .u8], .bool, .int .i64, .int .i64, .int .i64, .bool, .int .i64, .int .i64, .int .i64, .int .i64]
def tys : List (Nat × Ty) := [(3, ⟨false, [.int .i64], [], false⟩),
  (4, ⟨false, [.bool], [], false⟩),
  (5, ⟨false, [.int .u8], [], false⟩),
  (9, ⟨false, [.str], [], false⟩),
  (22, ⟨false, [.sl 23 [.sl 5 [.int .u8]]], [], false⟩),
  (23, ⟨false, [.sl 5 [.int .u8]], [], false⟩),
  (43, ⟨false, [.sl 139 [.int .i64, .int .i64, .int .i64, .sl 5 [.int .u8], .sl 5 [.int .u8], .int .i64, .int .i64, .sl 5 [.int .u8], .sl 5 [.int .u8], .int .i64, .int .i64, .int .i64]], [], false⟩),
  (53, ⟨true, [.int .i64, .int .i64], [(0, 1), (1, 1)], true⟩),
  (56, ⟨false, [.sl 3 [.int .i64]], [], false⟩),
  (58, ⟨true, [.int .i64, .sl 3 [.int .i64]], [(0, 1), (1, 1)], false⟩),
  (60, ⟨true, [.int .i64, .sl 5 [.int .u8], .int .i64, .int .i64, .sl 3 [.int .i64]], [(0, 1), (1, 1), (2, 1), (3, 2)], false⟩),
  (62, ⟨true, [.int .i64, .sl 5 [.int .u8], .int .i64, .sl 5 [.int .u8], .int .i64, .int .i64, .sl 3 [.int .i64], .int .i64, .sl 5 [.int .u8], .int .i64, .int .i64, .sl 3 [.int .i64], .bool, .int .i64, .sl 5 [.int .u8]], [(0, 1), (1, 1), (2, 5), (7, 5), (12, 1), (13, 1), (14, 1)], false⟩),
  (68, ⟨true, [.int .i64, .int .i64], [(0, 1), (1, 1)], true⟩),
  (69, ⟨true, [.int .i64, .int .i64, .sl 5 [.int .u8], .sl 5 [.int .u8], .int .i64, .sl 5 [.int .u8], .sl 5 [.int .u8], .int .i64, .int .i64, .sl 5 [.int .u8], .sl 5 [.int .u8]], [(0, 1), (1, 1), (2, 1), (3, 1), (4, 1), (5, 1), (6, 1), (7, 1), (8, 1), (9, 1), (10, 1)], false⟩),
  (70, ⟨true, [.int .i64, .sl 3 [.int .i64]], [(0, 1), (1, 1)], false⟩),
  (72, ⟨true, [.int .i64, .sl 5 [.int .u8], .int .i64, .int .i64, .sl 3 [.int .i64]], [(0, 1), (1, 1), (2, 1), (3, 2)], false⟩),
  (74, ⟨true, [.int .i64, .sl 5 [.int .u8], .int .i64, .sl 5 [.int .u8], .int .i64, .int .i64, .sl 3 [.int .i64], .int .i64, .sl 5 [.int .u8], .int .i64, .int .i64, .sl 3 [.int .i64], .bool, .int .i64, .sl 5 [.int .u8]], [(0, 1), (1, 1), (2, 5), (7, 5), (12, 1), (13, 1), (14, 1)], false⟩),
  (90, ⟨false, [.sl 272 [.int .i64, .int .i64, .sl 5 [.int .u8], .int .i64]], [], false⟩),
  (92, ⟨true, [.int .i64, .int .i64, .sl 272 [.int .i64, .int .i64, .sl 5 [.int .u8], .int .i64]], [(0, 2), (2, 1)], false⟩),
  (94, ⟨true, [.int .i64, .sl 5 [.int .u8], .sl 5 [.int .u8], .int .i64, .sl 5 [.int .u8], .int .i64, .sl 5 [.int .u8], .int .i64, .int .i64, .sl 3 [.int .i64], .int .i64, .sl 5 [.int .u8], .int .i64, .int .i64, .sl 3 [.int .i64], .bool, .int .i64, .sl 5 [.int .u8], .int .i64, .int .i64, .sl 272 [.int .i64, .int .i64, .sl 5 [.int .u8], .int .i64], .int .i64, .int .i64, .bool], [(0, 1), (1, 1), (2, 1), (3, 15), (18, 3), (21, 1), (22, 1), (23, 1)], false⟩),
  (96, ⟨false, [.sl 274 [.int .i64, .int .i64, .sl 5 [.int .u8], .int .i64]], [], false⟩),
  (98, ⟨true, [.int .i64, .int .i64, .sl 274 [.int .i64, .int .i64, .sl 5 [.int .u8], .int .i64]], [(0, 2), (2, 1)], false⟩),
  (100, ⟨true, [.int .i64, .sl 5 [.int .u8], .sl 5 [.int .u8], .int .i64, .sl 5 [.int .u8], .int .i64, .sl 5 [.int .u8], .int .i64, .int .i64, .sl 3 [.int .i64], .int .i64, .sl 5 [.int .u8], .int .i64, .int .i64, .sl 3 [.int .i64], .bool, .int .i64, .sl 5 [.int .u8], .int .i64, .int .i64, .sl 274 [.int .i64, .int .i64, .sl 5 [.int .u8], .int .i64], .int .i64, .int .i64, .bool], [(0, 1), (1, 1), (2, 1), (3, 15), (18, 3), (21, 1), (22, 1), (23, 1)], false⟩),
  (101, ⟨false, [.sl 175 [.int .i64, .int .i64, .int .i64, .int .i64, .sl 5 [.int .u8], .sl 5 [.int .u8], .int .i64, .sl 5 [.int .u8], .sl 5 [.int .u8], .int .i64, .int .i64, .sl 5 [.int .u8], .sl 5 [.int .u8]]], [], false⟩),
  (139, ⟨true, [.int .i64, .int .i64, .int .i64, .sl 5 [.int .u8], .sl 5 [.int .u8], .int .i64, .int .i64, .sl 5 [.int .u8], .sl 5 [.int .u8], .int .i64, .int .i64, .int .i64], [(0, 1), (1, 1), (2, 1), (3, 1), (4, 1), (5, 1), (6, 1), (7, 1), (8, 1), (9, 2), (11, 1)], false⟩),
  (175, ⟨true, [.int .i64, .int .i64, .int .i64, .int .i64, .sl 5 [.int .u8], .sl 5 [.int .u8], .int .i64, .sl 5 [.int .u8], .sl 5 [.int .u8], .int .i64, .int .i64, .sl 5 [.int .u8], .sl 5 [.int .u8]], [(0, 2), (2, 11)], false⟩),
  (272, ⟨true, [.int .i64, .int .i64, .sl 5 [.int .u8], .int .i64], [(0, 2), (2, 1), (3, 1)], false⟩),
  (274, ⟨true, [.int .i64, .int .i64, .sl 5 [.int .u8], .int .i64], [(0, 2), (2, 1), (3, 1)], false⟩),
  (298, ⟨true, [.sl 3 [.int .i64], .sl 5 [.int .u8], .int .i64], [(0, 1), (1, 1), (2, 1)], false⟩),
  (309, ⟨false, [.int .u64], [], false⟩)]
theorem tys_ok : tysB Tryz.prog tys = true := by kernel_rfl
theorem mixed : Tryz.prog.follows .mixedOrders = true := by kernel_rfl
def P_l_szByteS : List (Bool × List Sh) := [(false, [.sl 5 [.int .u8]]), (false, [.int .i64])]
def O_l_szByteS (r : (YI)) : List RV × List RV := ([rv (false, [.int .i64]) r], [])
def C_l_szByteS : Fns := []
def F_l_szByteS : Fun1 := funV P_l_szByteS (fun d => (T_l_szByteS d.1 d.2.1).val) O_l_szByteS
def Q_l_szByteS : Loops := fun _ _ => .fail
theorem e_l_szByteS : ∀ d, pcall ⟨lookT tys, ctrOf C_l_szByteS, kindOf C_l_szByteS, 3, 4⟩ 0 Q_l_szByteS Tryz.f98 .plain (mkA P_l_szByteS d) = (T_l_szByteS d.1 d.2.1).run fun r => some (O_l_szByteS r) := fun d => by kernel_rfl
theorem fn_l_szByteS : Fn Tryz.prog 98 .plain F_l_szByteS := fn_of (cfgOk_of mixed tys_ok (show FnsOk Tryz.prog C_l_szByteS from trivial)) Tryz.func98 (by kernel_rfl) (by kernel_rfl) (fun cx b hp hb => all_of (by kernel_rfl : loopsOf (Tryz.f98.body.getD .skip) = []) trivial b hb) (R := (YI)) (T := fun (d : aden P_l_szByteS) => T_l_szByteS d.1 d.2.1) e_l_szByteS
def P_l_szIntS : List (Bool × List Sh) := [(false, [.sl 3 [.int .i64]]), (false, [.int .i64])]
def O_l_szIntS (r : (YI)) : List RV × List RV := ([rv (false, [.int .i64]) r], [])
def C_l_szIntS : Fns := []
def F_l_szIntS : Fun1 := funV P_l_szIntS (fun d => (T_l_szIntS d.1 d.2.1).val) O_l_szIntS
def Q_l_szIntS : Loops := fun _ _ => .fail
theorem e_l_szIntS : ∀ d, pcall ⟨lookT tys, ctrOf C_l_szIntS, kindOf C_l_szIntS, 3, 4⟩ 0 Q_l_szIntS Tryz.f304 .plain (mkA P_l_szIntS d) = (T_l_szIntS d.1 d.2.1).run fun r => some (O_l_szIntS r) := fun d => by kernel_rfl
theorem fn_l_szIntS : Fn Tryz.prog 304 .plain F_l_szIntS := fn_of (cfgOk_of mixed tys_ok (show FnsOk Tryz.prog C_l_szIntS from trivial)) Tryz.func304 (by kernel_rfl) (by kernel_rfl) (fun cx b hp hb => all_of (by kernel_rfl : loopsOf (Tryz.f304.body.getD .skip) = []) trivial b hb) (R := (YI)) (T := fun (d : aden P_l_szIntS) => T_l_szIntS d.1 d.2.1) e_l_szIntS
def P_l_szWin : List (Bool × List Sh) := [(true, [.int .i64, .sl 3 [.int .i64]]), (false, [.int .i64])]
def O_l_szWin (r : (YI)) : List RV × List RV := ([rv (false, [.int .i64]) r], [])
def C_l_szWin : Fns := [(304, .plain, F_l_szIntS)]
def F_l_szWin : Fun1 := funV P_l_szWin (fun d => (T_l_szWin d.1 d.2.1).val) O_l_szWin
def Q_l_szWin : Loops := fun _ _ => .fail
theorem e_l_szWin : ∀ d, pcall ⟨lookT tys, ctrOf C_l_szWin, kindOf C_l_szWin, 3, 4⟩ 0 Q_l_szWin Tryz.f264 .plain (mkA P_l_szWin d) = (T_l_szWin d.1 d.2.1).run fun r => some (O_l_szWin r) := fun d => by kernel_rfl
theorem fn_l_szWin : Fn Tryz.prog 264 .plain F_l_szWin := fn_of (cfgOk_of mixed tys_ok (show FnsOk Tryz.prog C_l_szWin from ⟨fn_l_szIntS, trivial⟩)) Tryz.func264 (by kernel_rfl) (by kernel_rfl) (fun cx b hp hb => all_of (by kernel_rfl : loopsOf (Tryz.f264.body.getD .skip) = []) trivial b hb) (R := (YI)) (T := fun (d : aden P_l_szWin) => T_l_szWin d.1 d.2.1) e_l_szWin
def P_l_szEp : List (Bool × List Sh) := [(true, h_5), (false, [.int .i64])]
def O_l_szEp (r : (YI)) : List RV × List RV := ([rv (false, [.int .i64]) r], [])
def C_l_szEp : Fns := [(98, .plain, F_l_szByteS), (264, .plain, F_l_szWin)]
def F_l_szEp : Fun1 := funV P_l_szEp (fun d => (T_l_szEp d.1 d.2.1).val) O_l_szEp
def Q_l_szEp : Loops := fun _ _ => .fail
theorem e_l_szEp : ∀ d, pcall ⟨lookT tys, ctrOf C_l_szEp, kindOf C_l_szEp, 3, 4⟩ 0 Q_l_szEp Tryz.f195 .plain (mkA P_l_szEp d) = (T_l_szEp d.1 d.2.1).run fun r => some (O_l_szEp r) := fun d => by kernel_rfl
theorem fn_l_szEp : Fn Tryz.prog 195 .plain F_l_szEp := fn_of (cfgOk_of mixed tys_ok (show FnsOk Tryz.prog C_l_szEp from ⟨fn_l_szByteS, fn_l_szWin, trivial⟩)) Tryz.func195 (by kernel_rfl) (by kernel_rfl) (fun cx b hp hb => all_of (by kernel_rfl : loopsOf (Tryz.f195.body.getD .skip) = []) trivial b hb) (R := (YI)) (T := fun (d : aden P_l_szEp) => T_l_szEp d.1 d.2.1) e_l_szEp
def P_l_szChan : List (Bool × List Sh) := [(true, h_11), (false, [.int .i64])]
def O_l_szChan (r : (YI)) : List RV × List RV := ([rv (false, [.int .i64]) r], [])
def C_l_szChan : Fns := [(98, .plain, F_l_szByteS), (195, .plain, F_l_szEp)]
def F_l_szChan : Fun1 := funV P_l_szChan (fun d => (T_l_szChan d.1 d.2.1).val) O_l_szChan
def Q_l_szChan : Loops := fun _ _ => .fail
theorem e_l_szChan : ∀ d, pcall ⟨lookT tys, ctrOf C_l_szChan, kindOf C_l_szChan, 3, 4⟩ 0 Q_l_szChan Tryz.f99 .plain (mkA P_l_szChan d) = (T_l_szChan d.1 d.2.1).run fun r => some (O_l_szChan r) := fun d => by kernel_rfl
theorem fn_l_szChan : Fn Tryz.prog 99 .plain F_l_szChan := fn_of (cfgOk_of mixed tys_ok (show FnsOk Tryz.prog C_l_szChan from ⟨fn_l_szByteS, fn_l_szEp, trivial⟩)) Tryz.func99 (by kernel_rfl) (by kernel_rfl) (fun cx b hp hb => all_of (by kernel_rfl : loopsOf (Tryz.f99.body.getD .skip) = []) trivial b hb) (R := (YI)) (T := fun (d : aden P_l_szChan) => T_l_szChan d.1 d.2.1) e_l_szChan
def P_l_szCand : List (Bool × List Sh) := [(true, h_4), (false, [.int .i64])]
def O_l_szCand (r : (YI)) : List RV × List RV := ([rv (false, [.int .i64]) r], [])
def C_l_szCand : Fns := [(98, .plain, F_l_szByteS)]
def F_l_szCand : Fun1 := funV P_l_szCand (fun d => (T_l_szCand d.1 d.2.1).val) O_l_szCand
def Q_l_szCand : Loops := fun _ _ => .fail
theorem e_l_szCand : ∀ d, pcall ⟨lookT tys, ctrOf C_l_szCand, kindOf C_l_szCand, 3, 4⟩ 0 Q_l_szCand Tryz.f282 .plain (mkA P_l_szCand d) = (T_l_szCand d.1 d.2.1).run fun r => some (O_l_szCand r) := fun d => by kernel_rfl
theorem fn_l_szCand : Fn Tryz.prog 282 .plain F_l_szCand := fn_of (cfgOk_of mixed tys_ok (show FnsOk Tryz.prog C_l_szCand from ⟨fn_l_szByteS, trivial⟩)) Tryz.func282 (by kernel_rfl) (by kernel_rfl) (fun cx b hp hb => all_of (by kernel_rfl : loopsOf (Tryz.f282.body.getD .skip) = []) trivial b hb) (R := (YI)) (T := fun (d : aden P_l_szCand) => T_l_szCand d.1 d.2.1) e_l_szCand
def P_l_szCandS : List (Bool × List Sh) := [(false, [.sl 272 h_4]), (false, [.int .i64])]
def O_l_szCandS (r : (YI)) : List RV × List RV := ([rv (false, [.int .i64]) r], [])
def C_l_szCandS : Fns := [(282, .plain, F_l_szCand)]
def F_l_szCandS : Fun1 := funV P_l_szCandS (fun d => (T_l_szCandS d.1 d.2.1).val) O_l_szCandS
def K_l_szCandS_5 : Sk := ⟨[(0, .v false [(.sl 272 h_4, .ro)]), (1, .v false [(.int .i64, .nil)]), (5, .v false [(.int .i64, .nil)])], [], []⟩
def X_l_szCandS_5 : List (Ex × Sk) := [(.ret, ⟨[(4, .v false [(.int .i64, .nil)])], [], []⟩), ((.exit 0), ⟨[(1, .v false [(.int .i64, .nil)])], [], []⟩)]
def Q_l_szCandS : Loops := fun i st => cond (Nat.beq i 5) (lam K_l_szCandS_5 6000000 X_l_szCandS_5 B_l_szCandS_5 st) <| .fail
theorem lp_l_szCandS_5 : ∀ d, bod ⟨lookT tys, ctrOf C_l_szCandS, kindOf C_l_szCandS, 3, 4⟩ 0 Tryz.f218.ntmps Q_l_szCandS (nthLoop Tryz.f218 0) K_l_szCandS_5 6000000 X_l_szCandS_5 d = B_l_szCandS_5 d := fun d => by kernel_rfl
theorem lo_l_szCandS_5 (cx : Cx) (hp : cx.pin.length ≤ 0) : LoopOk Tryz.prog cx Tryz.f218.ntmps Q_l_szCandS (nthLoop Tryz.f218 0) := loop_of (cfgOk_of mixed tys_ok (show FnsOk Tryz.prog C_l_szCandS from ⟨fn_l_szCand, trivial⟩)) hp (all_of (by kernel_rfl : loopsOf (nthLoop Tryz.f218 0) = []) trivial) (by kernel_rfl) lp_l_szCandS_5
theorem e_l_szCandS : ∀ d, pcall ⟨lookT tys, ctrOf C_l_szCandS, kindOf C_l_szCandS, 3, 4⟩ 0 Q_l_szCandS Tryz.f218 .plain (mkA P_l_szCandS d) = (T_l_szCandS d.1 d.2.1).run fun r => some (O_l_szCandS r) := fun d => by kernel_rfl
theorem fn_l_szCandS : Fn Tryz.prog 218 .plain F_l_szCandS := fn_of (cfgOk_of mixed tys_ok (show FnsOk Tryz.prog C_l_szCandS from ⟨fn_l_szCand, trivial⟩)) Tryz.func218 (by kernel_rfl) (by kernel_rfl) (fun cx b hp hb => all_of (by kernel_rfl : loopsOf (Tryz.f218.body.getD .skip) = [nthLoop Tryz.f218 0]) ⟨lo_l_szCandS_5 cx hp, trivial⟩ b hb) (R := (YI)) (T := fun (d : aden P_l_szCandS) => T_l_szCandS d.1 d.2.1) e_l_szCandS
def P_l_szPaths : List (Bool × List Sh) := [(true, h_6), (false, [.int .i64])]
def O_l_szPaths (r : (YI)) : List RV × List RV := ([rv (false, [.int .i64]) r], [])
def C_l_szPaths : Fns := [(218, .plain, F_l_szCandS)]
def F_l_szPaths : Fun1 := funV P_l_szPaths (fun d => (T_l_szPaths d.1 d.2.1).val) O_l_szPaths
def Q_l_szPaths : Loops := fun _ _ => .fail
theorem e_l_szPaths : ∀ d, pcall ⟨lookT tys, ctrOf C_l_szPaths, kindOf C_l_szPaths, 3, 4⟩ 0 Q_l_szPaths Tryz.f119 .plain (mkA P_l_szPaths d) = (T_l_szPaths d.1 d.2.1).run fun r => some (O_l_szPaths r) := fun d => by kernel_rfl
theorem fn_l_szPaths : Fn Tryz.prog 119 .plain F_l_szPaths := fn_of (cfgOk_of mixed tys_ok (show FnsOk Tryz.prog C_l_szPaths from ⟨fn_l_szCandS, trivial⟩)) Tryz.func119 (by kernel_rfl) (by kernel_rfl) (fun cx b hp hb => all_of (by kernel_rfl : loopsOf (Tryz.f119.body.getD .skip) = []) trivial b hb) (R := (YI)) (T := fun (d : aden P_l_szPaths) => T_l_szPaths d.1 d.2.1) e_l_szPaths
def P_l_szSess : List (Bool × List Sh) := [(true, h_12), (false, [.int .i64])]
def O_l_szSess (r : (YI)) : List RV × List RV := ([rv (false, [.int .i64]) r], [])
def C_l_szSess : Fns := [(98, .plain, F_l_szByteS), (99, .plain, F_l_szChan), (119, .plain, F_l_szPaths)]
def F_l_szSess : Fun1 := funV P_l_szSess (fun d => (T_l_szSess d.1 d.2.1).val) O_l_szSess
def Q_l_szSess : Loops := fun _ _ => .fail
theorem e_l_szSess : ∀ d, pcall ⟨lookT tys, ctrOf C_l_szSess, kindOf C_l_szSess, 3, 4⟩ 0 Q_l_szSess Tryz.f35 .plain (mkA P_l_szSess d) = (T_l_szSess d.1 d.2.1).run fun r => some (O_l_szSess r) := fun d => by kernel_rfl
theorem fn_l_szSess : Fn Tryz.prog 35 .plain F_l_szSess := fn_of (cfgOk_of mixed tys_ok (show FnsOk Tryz.prog C_l_szSess from ⟨fn_l_szByteS, fn_l_szChan, fn_l_szPaths, trivial⟩)) Tryz.func35 (by kernel_rfl) (by kernel_rfl) (fun cx b hp hb => all_of (by kernel_rfl : loopsOf (Tryz.f35.body.getD .skip) = []) trivial b hb) (R := (YI)) (T := fun (d : aden P_l_szSess) => T_l_szSess d.1 d.2.1) e_l_szSess
def P_l_toByteS : List (Bool × List Sh) := [(false, [.sl 5 [.int .u8]])]
def O_l_toByteS (r : (YBs)) : List RV × List RV := ([rv (false, [.sl 5 [.int .u8]]) r], [])
def C_l_toByteS : Fns := []
def F_l_toByteS : Fun1 := funV P_l_toByteS (fun d => (T_l_toByteS d.1).val) O_l_toByteS
def K_l_toByteS_3 : Sk := ⟨[(0, .v false [(.sl 5 [.int .u8], .ro)]), (3, .v false [(.sl 5 [.int .u8], (.own 4000000))]), (4, .v false [(.int .i64, .nil)])], [], [4000000]⟩
def X_l_toByteS_3 : List (Ex × Sk) := [((.exit 0), ⟨[(3, .v false [(.sl 5 [.int .u8], (.own 4000000))])], [], [4000000]⟩)]
def Q_l_toByteS : Loops := fun i st => cond (Nat.beq i 3) (lam K_l_toByteS_3 4000000 X_l_toByteS_3 B_l_toByteS_3 st) <| .fail
theorem lp_l_toByteS_3 : ∀ d, bod ⟨lookT tys, ctrOf C_l_toByteS, kindOf C_l_toByteS, 3, 4⟩ 0 Tryz.f25.ntmps Q_l_toByteS (nthLoop Tryz.f25 0) K_l_toByteS_3 4000000 X_l_toByteS_3 d = B_l_toByteS_3 d := fun d => by kernel_rfl
theorem lo_l_toByteS_3 (cx : Cx) (hp : cx.pin.length ≤ 0) : LoopOk Tryz.prog cx Tryz.f25.ntmps Q_l_toByteS (nthLoop Tryz.f25 0) := loop_of (cfgOk_of mixed tys_ok (show FnsOk Tryz.prog C_l_toByteS from trivial)) hp (all_of (by kernel_rfl : loopsOf (nthLoop Tryz.f25 0) = []) trivial) (by kernel_rfl) lp_l_toByteS_3
theorem e_l_toByteS : ∀ d, pcall ⟨lookT tys, ctrOf C_l_toByteS, kindOf C_l_toByteS, 3, 4⟩ 0 Q_l_toByteS Tryz.f25 .plain (mkA P_l_toByteS d) = (T_l_toByteS d.1).run fun r => some (O_l_toByteS r) := fun d => by kernel_rfl
theorem fn_l_toByteS : Fn Tryz.prog 25 .plain F_l_toByteS := fn_of (cfgOk_of mixed tys_ok (show FnsOk Tryz.prog C_l_toByteS from trivial)) Tryz.func25 (by kernel_rfl) (by kernel_rfl) (fun cx b hp hb => all_of (by kernel_rfl : loopsOf (Tryz.f25.body.getD .skip) = [nthLoop Tryz.f25 0]) ⟨lo_l_toByteS_3 cx hp, trivial⟩ b hb) (R := (YBs)) (T := fun (d : aden P_l_toByteS) => T_l_toByteS d.1) e_l_toByteS
def P_l_toIntS : List (Bool × List Sh) := [(false, [.sl 3 [.int .i64]])]
def O_l_toIntS (r : ((List YI) × Unit)) : List RV × List RV := ([rv (false, [.sl 3 [.int .i64]]) r], [])
def C_l_toIntS : Fns := []
def F_l_toIntS : Fun1 := funV P_l_toIntS (fun d => (T_l_toIntS d.1).val) O_l_toIntS
def K_l_toIntS_3 : Sk := ⟨[(0, .v false [(.sl 3 [.int .i64], .ro)]), (3, .v false [(.sl 3 [.int .i64], (.own 4000000))]), (4, .v false [(.int .i64, .nil)])], [], [4000000]⟩
def X_l_toIntS_3 : List (Ex × Sk) := [((.exit 0), ⟨[(3, .v false [(.sl 3 [.int .i64], (.own 4000000))])], [], [4000000]⟩)]
def Q_l_toIntS : Loops := fun i st => cond (Nat.beq i 3) (lam K_l_toIntS_3 4000000 X_l_toIntS_3 B_l_toIntS_3 st) <| .fail
theorem lp_l_toIntS_3 : ∀ d, bod ⟨lookT tys, ctrOf C_l_toIntS, kindOf C_l_toIntS, 3, 4⟩ 0 Tryz.f308.ntmps Q_l_toIntS (nthLoop Tryz.f308 0) K_l_toIntS_3 4000000 X_l_toIntS_3 d = B_l_toIntS_3 d := fun d => by kernel_rfl
theorem lo_l_toIntS_3 (cx : Cx) (hp : cx.pin.length ≤ 0) : LoopOk Tryz.prog cx Tryz.f308.ntmps Q_l_toIntS (nthLoop Tryz.f308 0) := loop_of (cfgOk_of mixed tys_ok (show FnsOk Tryz.prog C_l_toIntS from trivial)) hp (all_of (by kernel_rfl : loopsOf (nthLoop Tryz.f308 0) = []) trivial) (by kernel_rfl) lp_l_toIntS_3
theorem e_l_toIntS : ∀ d, pcall ⟨lookT tys, ctrOf C_l_toIntS, kindOf C_l_toIntS, 3, 4⟩ 0 Q_l_toIntS Tryz.f308 .plain (mkA P_l_toIntS d) = (T_l_toIntS d.1).run fun r => some (O_l_toIntS r) := fun d => by kernel_rfl
theorem fn_l_toIntS : Fn Tryz.prog 308 .plain F_l_toIntS := fn_of (cfgOk_of mixed tys_ok (show FnsOk Tryz.prog C_l_toIntS from trivial)) Tryz.func308 (by kernel_rfl) (by kernel_rfl) (fun cx b hp hb => all_of (by kernel_rfl : loopsOf (Tryz.f308.body.getD .skip) = [nthLoop Tryz.f308 0]) ⟨lo_l_toIntS_3 cx hp, trivial⟩ b hb) (R := ((List YI) × Unit)) (T := fun (d : aden P_l_toIntS) => T_l_toIntS d.1) e_l_toIntS
def P_l_toWin : List (Bool × List Sh) := [(true, [.int .i64, .sl 3 [.int .i64]])]
def O_l_toWin (r : (YWin)) : List RV × List RV := ([rv (true, [.int .i64, .sl 3 [.int .i64]]) r], [])
def C_l_toWin : Fns := [(308, .plain, F_l_toIntS)]
def F_l_toWin : Fun1 := funV P_l_toWin (fun d => (T_l_toWin d.1).val) O_l_toWin
def Q_l_toWin : Loops := fun _ _ => .fail
theorem e_l_toWin : ∀ d, pcall ⟨lookT tys, ctrOf C_l_toWin, kindOf C_l_toWin, 3, 4⟩ 0 Q_l_toWin Tryz.f270 .plain (mkA P_l_toWin d) = (T_l_toWin d.1).run fun r => some (O_l_toWin r) := fun d => by kernel_rfl
theorem fn_l_toWin : Fn Tryz.prog 270 .plain F_l_toWin := fn_of (cfgOk_of mixed tys_ok (show FnsOk Tryz.prog C_l_toWin from ⟨fn_l_toIntS, trivial⟩)) Tryz.func270 (by kernel_rfl) (by kernel_rfl) (fun cx b hp hb => all_of (by kernel_rfl : loopsOf (Tryz.f270.body.getD .skip) = []) trivial b hb) (R := (YWin)) (T := fun (d : aden P_l_toWin) => T_l_toWin d.1) e_l_toWin
def P_l_toEp : List (Bool × List Sh) := [(true, h_5)]
def O_l_toEp (r : (YEp)) : List RV × List RV := ([rv (true, h_5) r], [])
def C_l_toEp : Fns := [(25, .plain, F_l_toByteS), (270, .plain, F_l_toWin)]
def F_l_toEp : Fun1 := funV P_l_toEp (fun d => (T_l_toEp d.1).val) O_l_toEp
def Q_l_toEp : Loops := fun _ _ => .fail
theorem e_l_toEp : ∀ d, pcall ⟨lookT tys, ctrOf C_l_toEp, kindOf C_l_toEp, 3, 4⟩ 0 Q_l_toEp Tryz.f203 .plain (mkA P_l_toEp d) = (T_l_toEp d.1).run fun r => some (O_l_toEp r) := fun d => by kernel_rfl
theorem fn_l_toEp : Fn Tryz.prog 203 .plain F_l_toEp := fn_of (cfgOk_of mixed tys_ok (show FnsOk Tryz.prog C_l_toEp from ⟨fn_l_toByteS, fn_l_toWin, trivial⟩)) Tryz.func203 (by kernel_rfl) (by kernel_rfl) (fun cx b hp hb => all_of (by kernel_rfl : loopsOf (Tryz.f203.body.getD .skip) = []) trivial b hb) (R := (YEp)) (T := fun (d : aden P_l_toEp) => T_l_toEp d.1) e_l_toEp
def P_l_toChan : List (Bool × List Sh) := [(true, h_11)]
def O_l_toChan (r : (YChan)) : List RV × List RV := ([rv (true, h_11) r], [])
def C_l_toChan : Fns := [(25, .plain, F_l_toByteS), (203, .plain, F_l_toEp)]
def F_l_toChan : Fun1 := funV P_l_toChan (fun d => (T_l_toChan d.1).val) O_l_toChan
def Q_l_toChan : Loops := fun _ _ => .fail
theorem e_l_toChan : ∀ d, pcall ⟨lookT tys, ctrOf C_l_toChan, kindOf C_l_toChan, 3, 4⟩ 0 Q_l_toChan Tryz.f105 .plain (mkA P_l_toChan d) = (T_l_toChan d.1).run fun r => some (O_l_toChan r) := fun d => by kernel_rfl
theorem fn_l_toChan : Fn Tryz.prog 105 .plain F_l_toChan := fn_of (cfgOk_of mixed tys_ok (show FnsOk Tryz.prog C_l_toChan from ⟨fn_l_toByteS, fn_l_toEp, trivial⟩)) Tryz.func105 (by kernel_rfl) (by kernel_rfl) (fun cx b hp hb => all_of (by kernel_rfl : loopsOf (Tryz.f105.body.getD .skip) = []) trivial b hb) (R := (YChan)) (T := fun (d : aden P_l_toChan) => T_l_toChan d.1) e_l_toChan
def P_l_toAddr : List (Bool × List Sh) := [(true, [.int .i64, .int .i64])]
def O_l_toAddr (r : (YAddr)) : List RV × List RV := ([rv (true, [.int .i64, .int .i64]) r], [])
def C_l_toAddr : Fns := []
def F_l_toAddr : Fun1 := funV P_l_toAddr (fun d => (T_l_toAddr d.1).val) O_l_toAddr
def Q_l_toAddr : Loops := fun _ _ => .fail
theorem e_l_toAddr : ∀ d, pcall ⟨lookT tys, ctrOf C_l_toAddr, kindOf C_l_toAddr, 3, 4⟩ 0 Q_l_toAddr Tryz.f104 .plain (mkA P_l_toAddr d) = (T_l_toAddr d.1).run fun r => some (O_l_toAddr r) := fun d => by kernel_rfl
theorem fn_l_toAddr : Fn Tryz.prog 104 .plain F_l_toAddr := fn_of (cfgOk_of mixed tys_ok (show FnsOk Tryz.prog C_l_toAddr from trivial)) Tryz.func104 (by kernel_rfl) (by kernel_rfl) (fun cx b hp hb => all_of (by kernel_rfl : loopsOf (Tryz.f104.body.getD .skip) = []) trivial b hb) (R := (YAddr)) (T := fun (d : aden P_l_toAddr) => T_l_toAddr d.1) e_l_toAddr
def P_l_toCand : List (Bool × List Sh) := [(true, h_4)]
def O_l_toCand (r : (YCand)) : List RV × List RV := ([rv (true, h_4) r], [])
def C_l_toCand : Fns := [(104, .plain, F_l_toAddr), (25, .plain, F_l_toByteS)]
def F_l_toCand : Fun1 := funV P_l_toCand (fun d => (T_l_toCand d.1).val) O_l_toCand
def Q_l_toCand : Loops := fun _ _ => .fail
theorem e_l_toCand : ∀ d, pcall ⟨lookT tys, ctrOf C_l_toCand, kindOf C_l_toCand, 3, 4⟩ 0 Q_l_toCand Tryz.f284 .plain (mkA P_l_toCand d) = (T_l_toCand d.1).run fun r => some (O_l_toCand r) := fun d => by kernel_rfl
theorem fn_l_toCand : Fn Tryz.prog 284 .plain F_l_toCand := fn_of (cfgOk_of mixed tys_ok (show FnsOk Tryz.prog C_l_toCand from ⟨fn_l_toAddr, fn_l_toByteS, trivial⟩)) Tryz.func284 (by kernel_rfl) (by kernel_rfl) (fun cx b hp hb => all_of (by kernel_rfl : loopsOf (Tryz.f284.body.getD .skip) = []) trivial b hb) (R := (YCand)) (T := fun (d : aden P_l_toCand) => T_l_toCand d.1) e_l_toCand
def P_l_toCandS : List (Bool × List Sh) := [(false, [.sl 272 h_4])]
def O_l_toCandS (r : ((List YCand) × Unit)) : List RV × List RV := ([rv (false, [.sl 274 h_4]) r], [])
def C_l_toCandS : Fns := [(284, .plain, F_l_toCand)]
def F_l_toCandS : Fun1 := funV P_l_toCandS (fun d => (T_l_toCandS d.1).val) O_l_toCandS
def K_l_toCandS_3 : Sk := ⟨[(0, .v false [(.sl 272 h_4, .ro)]), (3, .v false [(.sl 274 h_4, (.own 4000000))]), (4, .v false [(.int .i64, .nil)])], [], [4000000]⟩
def X_l_toCandS_3 : List (Ex × Sk) := [((.exit 0), ⟨[(3, .v false [(.sl 274 h_4, (.own 4000000))])], [], [4000000]⟩)]
def Q_l_toCandS : Loops := fun i st => cond (Nat.beq i 3) (lam K_l_toCandS_3 4000000 X_l_toCandS_3 B_l_toCandS_3 st) <| .fail
theorem lp_l_toCandS_3 : ∀ d, bod ⟨lookT tys, ctrOf C_l_toCandS, kindOf C_l_toCandS, 3, 4⟩ 0 Tryz.f222.ntmps Q_l_toCandS (nthLoop Tryz.f222 0) K_l_toCandS_3 4000000 X_l_toCandS_3 d = B_l_toCandS_3 d := fun d => by kernel_rfl
theorem lo_l_toCandS_3 (cx : Cx) (hp : cx.pin.length ≤ 0) : LoopOk Tryz.prog cx Tryz.f222.ntmps Q_l_toCandS (nthLoop Tryz.f222 0) := loop_of (cfgOk_of mixed tys_ok (show FnsOk Tryz.prog C_l_toCandS from ⟨fn_l_toCand, trivial⟩)) hp (all_of (by kernel_rfl : loopsOf (nthLoop Tryz.f222 0) = []) trivial) (by kernel_rfl) lp_l_toCandS_3
theorem e_l_toCandS : ∀ d, pcall ⟨lookT tys, ctrOf C_l_toCandS, kindOf C_l_toCandS, 3, 4⟩ 0 Q_l_toCandS Tryz.f222 .plain (mkA P_l_toCandS d) = (T_l_toCandS d.1).run fun r => some (O_l_toCandS r) := fun d => by kernel_rfl
theorem fn_l_toCandS : Fn Tryz.prog 222 .plain F_l_toCandS := fn_of (cfgOk_of mixed tys_ok (show FnsOk Tryz.prog C_l_toCandS from ⟨fn_l_toCand, trivial⟩)) Tryz.func222 (by kernel_rfl) (by kernel_rfl) (fun cx b hp hb => all_of (by kernel_rfl : loopsOf (Tryz.f222.body.getD .skip) = [nthLoop Tryz.f222 0]) ⟨lo_l_toCandS_3 cx hp, trivial⟩ b hb) (R := ((List YCand) × Unit)) (T := fun (d : aden P_l_toCandS) => T_l_toCandS d.1) e_l_toCandS
def P_l_toPaths : List (Bool × List Sh) := [(true, h_6)]
def O_l_toPaths (r : (YPaths)) : List RV × List RV := ([rv (true, h_7) r], [])
def C_l_toPaths : Fns := [(104, .plain, F_l_toAddr), (222, .plain, F_l_toCandS)]
def F_l_toPaths : Fun1 := funV P_l_toPaths (fun d => (T_l_toPaths d.1).val) O_l_toPaths
def Q_l_toPaths : Loops := fun _ _ => .fail
theorem e_l_toPaths : ∀ d, pcall ⟨lookT tys, ctrOf C_l_toPaths, kindOf C_l_toPaths, 3, 4⟩ 0 Q_l_toPaths Tryz.f122 .plain (mkA P_l_toPaths d) = (T_l_toPaths d.1).run fun r => some (O_l_toPaths r) := fun d => by kernel_rfl
theorem fn_l_toPaths : Fn Tryz.prog 122 .plain F_l_toPaths := fn_of (cfgOk_of mixed tys_ok (show FnsOk Tryz.prog C_l_toPaths from ⟨fn_l_toAddr, fn_l_toCandS, trivial⟩)) Tryz.func122 (by kernel_rfl) (by kernel_rfl) (fun cx b hp hb => all_of (by kernel_rfl : loopsOf (Tryz.f122.body.getD .skip) = []) trivial b hb) (R := (YPaths)) (T := fun (d : aden P_l_toPaths) => T_l_toPaths d.1) e_l_toPaths
def P_l_toSess : List (Bool × List Sh) := [(true, h_12)]
def O_l_toSess (r : (YSess)) : List RV × List RV := ([rv (true, h_13) r], [])
def C_l_toSess : Fns := [(25, .plain, F_l_toByteS), (105, .plain, F_l_toChan), (122, .plain, F_l_toPaths)]
def F_l_toSess : Fun1 := funV P_l_toSess (fun d => (T_l_toSess d.1).val) O_l_toSess
def Q_l_toSess : Loops := fun _ _ => .fail
theorem e_l_toSess : ∀ d, pcall ⟨lookT tys, ctrOf C_l_toSess, kindOf C_l_toSess, 3, 4⟩ 0 Q_l_toSess Tryz.f37 .plain (mkA P_l_toSess d) = (T_l_toSess d.1).run fun r => some (O_l_toSess r) := fun d => by kernel_rfl
theorem fn_l_toSess : Fn Tryz.prog 37 .plain F_l_toSess := fn_of (cfgOk_of mixed tys_ok (show FnsOk Tryz.prog C_l_toSess from ⟨fn_l_toByteS, fn_l_toChan, fn_l_toPaths, trivial⟩)) Tryz.func37 (by kernel_rfl) (by kernel_rfl) (fun cx b hp hb => all_of (by kernel_rfl : loopsOf (Tryz.f37.body.getD .skip) = []) trivial b hb) (R := (YSess)) (T := fun (d : aden P_l_toSess) => T_l_toSess d.1) e_l_toSess
def P_s_l8Copy : List (Bool × List Sh) := [(true, [.int .i64, .sl 3 [.int .i64]])]
def O_s_l8Copy (r : (YWin)) : List RV × List RV := ([rv (true, [.int .i64, .sl 3 [.int .i64]]) r], [])
def C_s_l8Copy : Fns := []
def F_s_l8Copy : Fun1 := funV P_s_l8Copy (fun d => (T_s_l8Copy d.1).val) O_s_l8Copy
def Q_s_l8Copy : Loops := fun _ _ => .fail
theorem e_s_l8Copy : ∀ d, pcall ⟨lookT tys, ctrOf C_s_l8Copy, kindOf C_s_l8Copy, 3, 4⟩ 0 Q_s_l8Copy Tryz.f305 .plain (mkA P_s_l8Copy d) = (T_s_l8Copy d.1).run fun r => some (O_s_l8Copy r) := fun d => by kernel_rfl
theorem fn_s_l8Copy : Fn Tryz.prog 305 .plain F_s_l8Copy := fn_of (cfgOk_of mixed tys_ok (show FnsOk Tryz.prog C_s_l8Copy from trivial)) Tryz.func305 (by kernel_rfl) (by kernel_rfl) (fun cx b hp hb => all_of (by kernel_rfl : loopsOf (Tryz.f305.body.getD .skip) = []) trivial b hb) (R := (YWin)) (T := fun (d : aden P_s_l8Copy) => T_s_l8Copy d.1) e_s_l8Copy
def P_s_l9Copy : List (Bool × List Sh) := [(true, h_5)]
def O_s_l9Copy (r : (YEp)) : List RV × List RV := ([rv (true, h_5) r], [])
def C_s_l9Copy : Fns := [(305, .plain, F_s_l8Copy)]
def F_s_l9Copy : Fun1 := funV P_s_l9Copy (fun d => (T_s_l9Copy d.1).val) O_s_l9Copy
def Q_s_l9Copy : Loops := fun _ _ => .fail
theorem e_s_l9Copy : ∀ d, pcall ⟨lookT tys, ctrOf C_s_l9Copy, kindOf C_s_l9Copy, 3, 4⟩ 0 Q_s_l9Copy Tryz.f265 .plain (mkA P_s_l9Copy d) = (T_s_l9Copy d.1).run fun r => some (O_s_l9Copy r) := fun d => by kernel_rfl
theorem fn_s_l9Copy : Fn Tryz.prog 265 .plain F_s_l9Copy := fn_of (cfgOk_of mixed tys_ok (show FnsOk Tryz.prog C_s_l9Copy from ⟨fn_s_l8Copy, trivial⟩)) Tryz.func265 (by kernel_rfl) (by kernel_rfl) (fun cx b hp hb => all_of (by kernel_rfl : loopsOf (Tryz.f265.body.getD .skip) = []) trivial b hb) (R := (YEp)) (T := fun (d : aden P_s_l9Copy) => T_s_l9Copy d.1) e_s_l9Copy
def P_s_l14Ep : List (Bool × List Sh) := [(true, h_5), (false, [.bool])]
def O_s_l14Ep (r : (YEp)) : List RV × List RV := ([rv (true, h_5) r], [])
def C_s_l14Ep : Fns := [(265, .plain, F_s_l9Copy)]
def F_s_l14Ep : Fun1 := funV P_s_l14Ep (fun d => (T_s_l14Ep d.1 d.2.1).val) O_s_l14Ep
def Q_s_l14Ep : Loops := fun _ _ => .fail
theorem e_s_l14Ep : ∀ d, pcall ⟨lookT tys, ctrOf C_s_l14Ep, kindOf C_s_l14Ep, 3, 4⟩ 0 Q_s_l14Ep Tryz.f266 .plain (mkA P_s_l14Ep d) = (T_s_l14Ep d.1 d.2.1).run fun r => some (O_s_l14Ep r) := fun d => by kernel_rfl
theorem fn_s_l14Ep : Fn Tryz.prog 266 .plain F_s_l14Ep := fn_of (cfgOk_of mixed tys_ok (show FnsOk Tryz.prog C_s_l14Ep from ⟨fn_s_l9Copy, trivial⟩)) Tryz.func266 (by kernel_rfl) (by kernel_rfl) (fun cx b hp hb => all_of (by kernel_rfl : loopsOf (Tryz.f266.body.getD .skip) = []) trivial b hb) (R := (YEp)) (T := fun (d : aden P_s_l14Ep) => T_s_l14Ep d.1 d.2.1) e_s_l14Ep
def P_s_l14Copy : List (Bool × List Sh) := [(true, h_11)]
def O_s_l14Copy (r : (YChan)) : List RV × List RV := ([rv (true, h_11) r], [])
def C_s_l14Copy : Fns := [(265, .plain, F_s_l9Copy), (266, .plain, F_s_l14Ep)]
def F_s_l14Copy : Fun1 := funV P_s_l14Copy (fun d => (T_s_l14Copy d.1).val) O_s_l14Copy
def Q_s_l14Copy : Loops := fun _ _ => .fail
theorem e_s_l14Copy : ∀ d, pcall ⟨lookT tys, ctrOf C_s_l14Copy, kindOf C_s_l14Copy, 3, 4⟩ 0 Q_s_l14Copy Tryz.f196 .plain (mkA P_s_l14Copy d) = (T_s_l14Copy d.1).run fun r => some (O_s_l14Copy r) := fun d => by kernel_rfl
theorem fn_s_l14Copy : Fn Tryz.prog 196 .plain F_s_l14Copy := fn_of (cfgOk_of mixed tys_ok (show FnsOk Tryz.prog C_s_l14Copy from ⟨fn_s_l9Copy, fn_s_l14Ep, trivial⟩)) Tryz.func196 (by kernel_rfl) (by kernel_rfl) (fun cx b hp hb => all_of (by kernel_rfl : loopsOf (Tryz.f196.body.getD .skip) = []) trivial b hb) (R := (YChan)) (T := fun (d : aden P_s_l14Copy) => T_s_l14Copy d.1) e_s_l14Copy
def P_s_l16Cand : List (Bool × List Sh) := [(true, h_4)]
def O_s_l16Cand (r : (YCand)) : List RV × List RV := ([rv (true, h_4) r], [])
def C_s_l16Cand : Fns := []
def F_s_l16Cand : Fun1 := funV P_s_l16Cand (fun d => (T_s_l16Cand d.1).val) O_s_l16Cand
def Q_s_l16Cand : Loops := fun _ _ => .fail
theorem e_s_l16Cand : ∀ d, pcall ⟨lookT tys, ctrOf C_s_l16Cand, kindOf C_s_l16Cand, 3, 4⟩ 0 Q_s_l16Cand Tryz.f283 .plain (mkA P_s_l16Cand d) = (T_s_l16Cand d.1).run fun r => some (O_s_l16Cand r) := fun d => by kernel_rfl
theorem fn_s_l16Cand : Fn Tryz.prog 283 .plain F_s_l16Cand := fn_of (cfgOk_of mixed tys_ok (show FnsOk Tryz.prog C_s_l16Cand from trivial)) Tryz.func283 (by kernel_rfl) (by kernel_rfl) (fun cx b hp hb => all_of (by kernel_rfl : loopsOf (Tryz.f283.body.getD .skip) = []) trivial b hb) (R := (YCand)) (T := fun (d : aden P_s_l16Cand) => T_s_l16Cand d.1) e_s_l16Cand
def P_s_l16Copy : List (Bool × List Sh) := [(true, h_7)]
def O_s_l16Copy (r : (YPaths)) : List RV × List RV := ([rv (true, h_7) r], [])
def C_s_l16Copy : Fns := [(283, .plain, F_s_l16Cand)]
def F_s_l16Copy : Fun1 := funV P_s_l16Copy (fun d => (T_s_l16Copy d.1).val) O_s_l16Copy
def K_s_l16Copy_3 : Sk := ⟨[(1, .box 1 0), (2, .box 2 0), (3, .box 3 0), (4, .v false [(.int .i64, .nil)])], [(1, [(.int .i64, .nil), (.int .i64, .nil), (.sl 274 h_4, .ro)]), (2, [(.int .i64, .nil), (.int .i64, .nil), (.sl 274 h_4, (.own 4000000))]), (3, [(.int .i64, .nil), (.int .i64, .nil), (.sl 274 h_4, (.own 4000001))])], [4000000, 4000001]⟩
def X_s_l16Copy_3 : List (Ex × Sk) := [((.exit 0), ⟨[(2, .box 2 0), (3, .box 3 0)], [(2, [(.int .i64, .nil), (.int .i64, .nil), (.sl 274 h_4, (.own 4000000))]), (3, [(.int .i64, .nil), (.int .i64, .nil), (.sl 274 h_4, (.own 4000001))])], [4000000, 4000001]⟩)]
def Q_s_l16Copy : Loops := fun i st => cond (Nat.beq i 3) (lam K_s_l16Copy_3 4000000 X_s_l16Copy_3 B_s_l16Copy_3 st) <| .fail
theorem lp_s_l16Copy_3 : ∀ d, bod ⟨lookT tys, ctrOf C_s_l16Copy, kindOf C_s_l16Copy, 3, 4⟩ 0 Tryz.f219.ntmps Q_s_l16Copy (nthLoop Tryz.f219 0) K_s_l16Copy_3 4000000 X_s_l16Copy_3 d = B_s_l16Copy_3 d := fun d => by kernel_rfl
theorem lo_s_l16Copy_3 (cx : Cx) (hp : cx.pin.length ≤ 0) : LoopOk Tryz.prog cx Tryz.f219.ntmps Q_s_l16Copy (nthLoop Tryz.f219 0) := loop_of (cfgOk_of mixed tys_ok (show FnsOk Tryz.prog C_s_l16Copy from ⟨fn_s_l16Cand, trivial⟩)) hp (all_of (by kernel_rfl : loopsOf (nthLoop Tryz.f219 0) = []) trivial) (by kernel_rfl) lp_s_l16Copy_3
theorem e_s_l16Copy : ∀ d, pcall ⟨lookT tys, ctrOf C_s_l16Copy, kindOf C_s_l16Copy, 3, 4⟩ 0 Q_s_l16Copy Tryz.f219 .plain (mkA P_s_l16Copy d) = (T_s_l16Copy d.1).run fun r => some (O_s_l16Copy r) := fun d => by kernel_rfl
theorem fn_s_l16Copy : Fn Tryz.prog 219 .plain F_s_l16Copy := fn_of (cfgOk_of mixed tys_ok (show FnsOk Tryz.prog C_s_l16Copy from ⟨fn_s_l16Cand, trivial⟩)) Tryz.func219 (by kernel_rfl) (by kernel_rfl) (fun cx b hp hb => all_of (by kernel_rfl : loopsOf (Tryz.f219.body.getD .skip) = [nthLoop Tryz.f219 0]) ⟨lo_s_l16Copy_3 cx hp, trivial⟩ b hb) (R := (YPaths)) (T := fun (d : aden P_s_l16Copy) => T_s_l16Copy d.1) e_s_l16Copy
def P_s_l20Copy : List (Bool × List Sh) := [(true, h_13)]
def O_s_l20Copy (r : (YSess)) : List RV × List RV := ([rv (true, h_13) r], [])
def C_s_l20Copy : Fns := [(196, .plain, F_s_l14Copy), (219, .plain, F_s_l16Copy)]
def F_s_l20Copy : Fun1 := funV P_s_l20Copy (fun d => (T_s_l20Copy d.1).val) O_s_l20Copy
def Q_s_l20Copy : Loops := fun _ _ => .fail
theorem e_s_l20Copy : ∀ d, pcall ⟨lookT tys, ctrOf C_s_l20Copy, kindOf C_s_l20Copy, 3, 4⟩ 0 Q_s_l20Copy Tryz.f120 .plain (mkA P_s_l20Copy d) = (T_s_l20Copy d.1).run fun r => some (O_s_l20Copy r) := fun d => by kernel_rfl
theorem fn_s_l20Copy : Fn Tryz.prog 120 .plain F_s_l20Copy := fn_of (cfgOk_of mixed tys_ok (show FnsOk Tryz.prog C_s_l20Copy from ⟨fn_s_l14Copy, fn_s_l16Copy, trivial⟩)) Tryz.func120 (by kernel_rfl) (by kernel_rfl) (fun cx b hp hb => all_of (by kernel_rfl : loopsOf (Tryz.f120.body.getD .skip) = []) trivial b hb) (R := (YSess)) (T := fun (d : aden P_s_l20Copy) => T_s_l20Copy d.1) e_s_l20Copy
def P_s_l1In : List (Bool × List Sh) := [(false, [.int .i64]), (false, [.int .i64]), (false, [.int .i64])]
def O_s_l1In (r : (Bool × Unit)) : List RV × List RV := ([rv (false, [.bool]) r], [])
def C_s_l1In : Fns := []
def F_s_l1In : Fun1 := funV P_s_l1In (fun d => (T_s_l1In d.1 d.2.1 d.2.2.1).val) O_s_l1In
def Q_s_l1In : Loops := fun _ _ => .fail
theorem e_s_l1In : ∀ d, pcall ⟨lookT tys, ctrOf C_s_l1In, kindOf C_s_l1In, 3, 4⟩ 0 Q_s_l1In Tryz.f68 .plain (mkA P_s_l1In d) = (T_s_l1In d.1 d.2.1 d.2.2.1).run fun r => some (O_s_l1In r) := fun d => by kernel_rfl
theorem fn_s_l1In : Fn Tryz.prog 68 .plain F_s_l1In := fn_of (cfgOk_of mixed tys_ok (show FnsOk Tryz.prog C_s_l1In from trivial)) Tryz.func68 (by kernel_rfl) (by kernel_rfl) (fun cx b hp hb => all_of (by kernel_rfl : loopsOf (Tryz.f68.body.getD .skip) = []) trivial b hb) (R := (Bool × Unit)) (T := fun (d : aden P_s_l1In) => T_s_l1In d.1 d.2.1 d.2.2.1) e_s_l1In
def P_s_l14None : List (Bool × List Sh) := [(true, h_5)]
def O_s_l14None (r : (Bool × Unit)) : List RV × List RV := ([rv (false, [.bool]) r], [])
def C_s_l14None : Fns := []
def F_s_l14None : Fun1 := funV P_s_l14None (fun d => (T_s_l14None d.1).val) O_s_l14None
def Q_s_l14None : Loops := fun _ _ => .fail
theorem e_s_l14None : ∀ d, pcall ⟨lookT tys, ctrOf C_s_l14None, kindOf C_s_l14None, 3, 4⟩ 0 Q_s_l14None Tryz.f267 .plain (mkA P_s_l14None d) = (T_s_l14None d.1).run fun r => some (O_s_l14None r) := fun d => by kernel_rfl
theorem fn_s_l14None : Fn Tryz.prog 267 .plain F_s_l14None := fn_of (cfgOk_of mixed tys_ok (show FnsOk Tryz.prog C_s_l14None from trivial)) Tryz.func267 (by kernel_rfl) (by kernel_rfl) (fun cx b hp hb => all_of (by kernel_rfl : loopsOf (Tryz.f267.body.getD .skip) = []) trivial b hb) (R := (Bool × Unit)) (T := fun (d : aden P_s_l14None) => T_s_l14None d.1) e_s_l14None
def P_s_l19NoChan : List (Bool × List Sh) := [(true, h_11)]
def O_s_l19NoChan (r : (Bool × Unit)) : List RV × List RV := ([rv (false, [.bool]) r], [])
def C_s_l19NoChan : Fns := [(267, .plain, F_s_l14None)]
def F_s_l19NoChan : Fun1 := funV P_s_l19NoChan (fun d => (T_s_l19NoChan d.1).val) O_s_l19NoChan
def Q_s_l19NoChan : Loops := fun _ _ => .fail
theorem e_s_l19NoChan : ∀ d, pcall ⟨lookT tys, ctrOf C_s_l19NoChan, kindOf C_s_l19NoChan, 3, 4⟩ 0 Q_s_l19NoChan Tryz.f200 .plain (mkA P_s_l19NoChan d) = (T_s_l19NoChan d.1).run fun r => some (O_s_l19NoChan r) := fun d => by kernel_rfl
theorem fn_s_l19NoChan : Fn Tryz.prog 200 .plain F_s_l19NoChan := fn_of (cfgOk_of mixed tys_ok (show FnsOk Tryz.prog C_s_l19NoChan from ⟨fn_s_l14None, trivial⟩)) Tryz.func200 (by kernel_rfl) (by kernel_rfl) (fun cx b hp hb => all_of (by kernel_rfl : loopsOf (Tryz.f200.body.getD .skip) = []) trivial b hb) (R := (Bool × Unit)) (T := fun (d : aden P_s_l19NoChan) => T_s_l19NoChan d.1) e_s_l19NoChan
def P_s_Near : List (Bool × List Sh) := [(false, [.int .i64])]
def O_s_Near (r : (YAddr)) : List RV × List RV := ([rv (true, [.int .i64, .int .i64]) r], [])
def C_s_Near : Fns := [(68, .plain, F_s_l1In)]
def F_s_Near : Fun1 := funV P_s_Near (fun d => (T_s_Near d.1).val) O_s_Near
def Q_s_Near : Loops := fun _ _ => .fail
theorem e_s_Near : ∀ d, pcall ⟨lookT tys, ctrOf C_s_Near, kindOf C_s_Near, 3, 4⟩ 0 Q_s_Near Tryz.f220 .plain (mkA P_s_Near d) = (T_s_Near d.1).run fun r => some (O_s_Near r) := fun d => by kernel_rfl
theorem fn_s_Near : Fn Tryz.prog 220 .plain F_s_Near := fn_of (cfgOk_of mixed tys_ok (show FnsOk Tryz.prog C_s_Near from ⟨fn_s_l1In, trivial⟩)) Tryz.func220 (by kernel_rfl) (by kernel_rfl) (fun cx b hp hb => all_of (by kernel_rfl : loopsOf (Tryz.f220.body.getD .skip) = []) trivial b hb) (R := (YAddr)) (T := fun (d : aden P_s_Near) => T_s_Near d.1) e_s_Near
def P_s_l8Bit : List (Bool × List Sh) := [(true, [.int .i64, .sl 3 [.int .i64]]), (false, [.int .i64])]
def O_s_l8Bit (r : (Bool × Unit)) : List RV × List RV := ([rv (false, [.bool]) r], [])
def C_s_l8Bit : Fns := []
def F_s_l8Bit : Fun1 := funV P_s_l8Bit (fun d => (T_s_l8Bit d.1 d.2.1).val) O_s_l8Bit
def Q_s_l8Bit : Loops := fun _ _ => .fail
theorem e_s_l8Bit : ∀ d, pcall ⟨lookT tys, ctrOf C_s_l8Bit, kindOf C_s_l8Bit, 3, 4⟩ 0 Q_s_l8Bit Tryz.f321 .plain (mkA P_s_l8Bit d) = (T_s_l8Bit d.1 d.2.1).run fun r => some (O_s_l8Bit r) := fun d => by kernel_rfl
theorem fn_s_l8Bit : Fn Tryz.prog 321 .plain F_s_l8Bit := fn_of (cfgOk_of mixed tys_ok (show FnsOk Tryz.prog C_s_l8Bit from trivial)) Tryz.func321 (by kernel_rfl) (by kernel_rfl) (fun cx b hp hb => all_of (by kernel_rfl : loopsOf (Tryz.f321.body.getD .skip) = []) trivial b hb) (R := (Bool × Unit)) (T := fun (d : aden P_s_l8Bit) => T_s_l8Bit d.1 d.2.1) e_s_l8Bit
def P_s_WinOk : List (Bool × List Sh) := [(true, [.int .i64, .sl 3 [.int .i64]])]
def O_s_WinOk (r : (Bool × Unit)) : List RV × List RV := ([rv (false, [.bool]) r], [])
def C_s_WinOk : Fns := [(68, .plain, F_s_l1In), (321, .plain, F_s_l8Bit)]
def F_s_WinOk : Fun1 := funV P_s_WinOk (fun d => (T_s_WinOk d.1).val) O_s_WinOk
def K_s_WinOk_11 : Sk := ⟨[(1, .box 1 0), (4, .v false [(.int .i64, .nil)])], [(1, [(.int .i64, .nil), (.sl 3 [.int .i64], .ro)])], []⟩
def X_s_WinOk_11 : List (Ex × Sk) := [(.ret, ⟨[(2, .v false [(.bool, .nil)])], [], []⟩), ((.exit 2), ⟨[], [], []⟩)]
def K_s_WinOk_4 : Sk := ⟨[(1, .box 1 0), (3, .v false [(.int .i64, .nil)])], [(1, [(.int .i64, .nil), (.sl 3 [.int .i64], .ro)])], []⟩
def X_s_WinOk_4 : List (Ex × Sk) := [(.ret, ⟨[(2, .v false [(.bool, .nil)])], [], []⟩), ((.exit 0), ⟨[(1, .box 1 0)], [(1, [(.int .i64, .nil), (.sl 3 [.int .i64], .ro)])], []⟩)]
def Q_s_WinOk : Loops := fun i st => cond (Nat.beq i 4) (lam K_s_WinOk_4 5000000 X_s_WinOk_4 B_s_WinOk_4 st) <| cond (Nat.beq i 11) (lam K_s_WinOk_11 12000000 X_s_WinOk_11 B_s_WinOk_11 st) <| .fail
theorem lp_s_WinOk_4 : ∀ d, bod ⟨lookT tys, ctrOf C_s_WinOk, kindOf C_s_WinOk, 3, 4⟩ 0 Tryz.f306.ntmps Q_s_WinOk (nthLoop Tryz.f306 0) K_s_WinOk_4 5000000 X_s_WinOk_4 d = B_s_WinOk_4 d := fun d => by kernel_rfl
theorem lo_s_WinOk_4 (cx : Cx) (hp : cx.pin.length ≤ 0) : LoopOk Tryz.prog cx Tryz.f306.ntmps Q_s_WinOk (nthLoop Tryz.f306 0) := loop_of (cfgOk_of mixed tys_ok (show FnsOk Tryz.prog C_s_WinOk from ⟨fn_s_l1In, fn_s_l8Bit, trivial⟩)) hp (all_of (by kernel_rfl : loopsOf (nthLoop Tryz.f306 0) = []) trivial) (by kernel_rfl) lp_s_WinOk_4
theorem lp_s_WinOk_11 : ∀ d, bod ⟨lookT tys, ctrOf C_s_WinOk, kindOf C_s_WinOk, 3, 4⟩ 0 Tryz.f306.ntmps Q_s_WinOk (nthLoop Tryz.f306 1) K_s_WinOk_11 12000000 X_s_WinOk_11 d = B_s_WinOk_11 d := fun d => by kernel_rfl
theorem lo_s_WinOk_11 (cx : Cx) (hp : cx.pin.length ≤ 0) : LoopOk Tryz.prog cx Tryz.f306.ntmps Q_s_WinOk (nthLoop Tryz.f306 1) := loop_of (cfgOk_of mixed tys_ok (show FnsOk Tryz.prog C_s_WinOk from ⟨fn_s_l1In, fn_s_l8Bit, trivial⟩)) hp (all_of (by kernel_rfl : loopsOf (nthLoop Tryz.f306 1) = []) trivial) (by kernel_rfl) lp_s_WinOk_11
theorem e_s_WinOk : ∀ d, pcall ⟨lookT tys, ctrOf C_s_WinOk, kindOf C_s_WinOk, 3, 4⟩ 0 Q_s_WinOk Tryz.f306 .plain (mkA P_s_WinOk d) = (T_s_WinOk d.1).run fun r => some (O_s_WinOk r) := fun d => by kernel_rfl
theorem fn_s_WinOk : Fn Tryz.prog 306 .plain F_s_WinOk := fn_of (cfgOk_of mixed tys_ok (show FnsOk Tryz.prog C_s_WinOk from ⟨fn_s_l1In, fn_s_l8Bit, trivial⟩)) Tryz.func306 (by kernel_rfl) (by kernel_rfl) (fun cx b hp hb => all_of (by kernel_rfl : loopsOf (Tryz.f306.body.getD .skip) = [nthLoop Tryz.f306 0, nthLoop Tryz.f306 1]) ⟨lo_s_WinOk_4 cx hp, lo_s_WinOk_11 cx hp, trivial⟩ b hb) (R := (Bool × Unit)) (T := fun (d : aden P_s_WinOk) => T_s_WinOk d.1) e_s_WinOk
def P_s_EpOk : List (Bool × List Sh) := [(true, h_5)]
def O_s_EpOk (r : (Bool × Unit)) : List RV × List RV := ([rv (false, [.bool]) r], [])
def C_s_EpOk : Fns := [(68, .plain, F_s_l1In), (306, .plain, F_s_WinOk)]
def F_s_EpOk : Fun1 := funV P_s_EpOk (fun d => (T_s_EpOk d.1).val) O_s_EpOk
def Q_s_EpOk : Loops := fun _ _ => .fail
theorem e_s_EpOk : ∀ d, pcall ⟨lookT tys, ctrOf C_s_EpOk, kindOf C_s_EpOk, 3, 4⟩ 0 Q_s_EpOk Tryz.f268 .plain (mkA P_s_EpOk d) = (T_s_EpOk d.1).run fun r => some (O_s_EpOk r) := fun d => by kernel_rfl
theorem fn_s_EpOk : Fn Tryz.prog 268 .plain F_s_EpOk := fn_of (cfgOk_of mixed tys_ok (show FnsOk Tryz.prog C_s_EpOk from ⟨fn_s_l1In, fn_s_WinOk, trivial⟩)) Tryz.func268 (by kernel_rfl) (by kernel_rfl) (fun cx b hp hb => all_of (by kernel_rfl : loopsOf (Tryz.f268.body.getD .skip) = []) trivial b hb) (R := (Bool × Unit)) (T := fun (d : aden P_s_EpOk) => T_s_EpOk d.1) e_s_EpOk
def P_s_ChanOk : List (Bool × List Sh) := [(true, h_11)]
def O_s_ChanOk (r : (Bool × Unit)) : List RV × List RV := ([rv (false, [.bool]) r], [])
def C_s_ChanOk : Fns := [(68, .plain, F_s_l1In), (268, .plain, F_s_EpOk), (267, .plain, F_s_l14None)]
def F_s_ChanOk : Fun1 := funV P_s_ChanOk (fun d => (T_s_ChanOk d.1).val) O_s_ChanOk
def Q_s_ChanOk : Loops := fun _ _ => .fail
theorem e_s_ChanOk : ∀ d, pcall ⟨lookT tys, ctrOf C_s_ChanOk, kindOf C_s_ChanOk, 3, 4⟩ 0 Q_s_ChanOk Tryz.f201 .plain (mkA P_s_ChanOk d) = (T_s_ChanOk d.1).run fun r => some (O_s_ChanOk r) := fun d => by kernel_rfl
theorem fn_s_ChanOk : Fn Tryz.prog 201 .plain F_s_ChanOk := fn_of (cfgOk_of mixed tys_ok (show FnsOk Tryz.prog C_s_ChanOk from ⟨fn_s_l1In, fn_s_EpOk, fn_s_l14None, trivial⟩)) Tryz.func201 (by kernel_rfl) (by kernel_rfl) (fun cx b hp hb => all_of (by kernel_rfl : loopsOf (Tryz.f201.body.getD .skip) = []) trivial b hb) (R := (Bool × Unit)) (T := fun (d : aden P_s_ChanOk) => T_s_ChanOk d.1) e_s_ChanOk
def P_s_l1Same : List (Bool × List Sh) := [(false, [.sl 5 [.int .u8]]), (false, [.sl 5 [.int .u8]])]
def O_s_l1Same (r : (Bool × Unit)) : List RV × List RV := ([rv (false, [.bool]) r], [])
def C_s_l1Same : Fns := []
def F_s_l1Same : Fun1 := funV P_s_l1Same (fun d => (T_s_l1Same d.1 d.2.1).val) O_s_l1Same
def Q_s_l1Same : Loops := fun _ _ => .fail
theorem e_s_l1Same : ∀ d, pcall ⟨lookT tys, ctrOf C_s_l1Same, kindOf C_s_l1Same, 3, 4⟩ 0 Q_s_l1Same Tryz.f156 .plain (mkA P_s_l1Same d) = (T_s_l1Same d.1 d.2.1).run fun r => some (O_s_l1Same r) := fun d => by kernel_rfl
theorem fn_s_l1Same : Fn Tryz.prog 156 .plain F_s_l1Same := fn_of (cfgOk_of mixed tys_ok (show FnsOk Tryz.prog C_s_l1Same from trivial)) Tryz.func156 (by kernel_rfl) (by kernel_rfl) (fun cx b hp hb => all_of (by kernel_rfl : loopsOf (Tryz.f156.body.getD .skip) = []) trivial b hb) (R := (Bool × Unit)) (T := fun (d : aden P_s_l1Same) => T_s_l1Same d.1 d.2.1) e_s_l1Same
def P_s_AddrOk : List (Bool × List Sh) := [(true, [.int .i64, .int .i64])]
def O_s_AddrOk (r : (Bool × Unit)) : List RV × List RV := ([rv (false, [.bool]) r], [])
def C_s_AddrOk : Fns := [(68, .plain, F_s_l1In)]
def F_s_AddrOk : Fun1 := funV P_s_AddrOk (fun d => (T_s_AddrOk d.1).val) O_s_AddrOk
def Q_s_AddrOk : Loops := fun _ _ => .fail
theorem e_s_AddrOk : ∀ d, pcall ⟨lookT tys, ctrOf C_s_AddrOk, kindOf C_s_AddrOk, 3, 4⟩ 0 Q_s_AddrOk Tryz.f197 .plain (mkA P_s_AddrOk d) = (T_s_AddrOk d.1).run fun r => some (O_s_AddrOk r) := fun d => by kernel_rfl
theorem fn_s_AddrOk : Fn Tryz.prog 197 .plain F_s_AddrOk := fn_of (cfgOk_of mixed tys_ok (show FnsOk Tryz.prog C_s_AddrOk from ⟨fn_s_l1In, trivial⟩)) Tryz.func197 (by kernel_rfl) (by kernel_rfl) (fun cx b hp hb => all_of (by kernel_rfl : loopsOf (Tryz.f197.body.getD .skip) = []) trivial b hb) (R := (Bool × Unit)) (T := fun (d : aden P_s_AddrOk) => T_s_AddrOk d.1) e_s_AddrOk
def P_s_PathsOk : List (Bool × List Sh) := [(true, h_7)]
def O_s_PathsOk (r : (Bool × Unit)) : List RV × List RV := ([rv (false, [.bool]) r], [])
def C_s_PathsOk : Fns := [(197, .plain, F_s_AddrOk), (68, .plain, F_s_l1In)]
def F_s_PathsOk : Fun1 := funV P_s_PathsOk (fun d => (T_s_PathsOk d.1).val) O_s_PathsOk
def K_s_PathsOk_4 : Sk := ⟨[(1, .box 1 0), (3, .v false [(.int .i64, .nil)])], [(1, [(.int .i64, .nil), (.int .i64, .nil), (.sl 274 h_4, .ro)])], []⟩
def X_s_PathsOk_4 : List (Ex × Sk) := [(.ret, ⟨[(2, .v false [(.bool, .nil)])], [], []⟩), ((.exit 0), ⟨[], [], []⟩)]
def K_s_PathsOk_10 : Sk := ⟨[(1, .box 1 0), (3, .v false [(.int .i64, .nil)]), (4, .box 4 0), (5, .v false [(.int .i64, .nil)])], [(1, [(.int .i64, .nil), (.int .i64, .nil), (.sl 274 h_4, .ro)]), (4, [(.int .i64, .nil), (.int .i64, .nil), (.sl 5 [.int .u8], .ro), (.int .i64, .nil)])], []⟩
def X_s_PathsOk_10 : List (Ex × Sk) := [(.ret, ⟨[(2, .v false [(.bool, .nil)])], [], []⟩), ((.exit 2), ⟨[(1, .box 1 0), (3, .v false [(.int .i64, .nil)])], [(1, [(.int .i64, .nil), (.int .i64, .nil), (.sl 274 h_4, .ro)])], []⟩)]
def Q_s_PathsOk : Loops := fun i st => cond (Nat.beq i 10) (lam K_s_PathsOk_10 11000000 X_s_PathsOk_10 B_s_PathsOk_10 st) <| cond (Nat.beq i 4) (lam K_s_PathsOk_4 5000000 X_s_PathsOk_4 B_s_PathsOk_4 st) <| .fail
theorem lp_s_PathsOk_10 : ∀ d, bod ⟨lookT tys, ctrOf C_s_PathsOk, kindOf C_s_PathsOk, 3, 4⟩ 0 Tryz.f221.ntmps Q_s_PathsOk (nthLoop Tryz.f221 1) K_s_PathsOk_10 11000000 X_s_PathsOk_10 d = B_s_PathsOk_10 d := fun d => by kernel_rfl
theorem lo_s_PathsOk_10 (cx : Cx) (hp : cx.pin.length ≤ 0) : LoopOk Tryz.prog cx Tryz.f221.ntmps Q_s_PathsOk (nthLoop Tryz.f221 1) := loop_of (cfgOk_of mixed tys_ok (show FnsOk Tryz.prog C_s_PathsOk from ⟨fn_s_AddrOk, fn_s_l1In, trivial⟩)) hp (all_of (by kernel_rfl : loopsOf (nthLoop Tryz.f221 1) = []) trivial) (by kernel_rfl) lp_s_PathsOk_10
theorem lp_s_PathsOk_4 : ∀ d, bod ⟨lookT tys, ctrOf C_s_PathsOk, kindOf C_s_PathsOk, 3, 4⟩ 0 Tryz.f221.ntmps Q_s_PathsOk (nthLoop Tryz.f221 0) K_s_PathsOk_4 5000000 X_s_PathsOk_4 d = B_s_PathsOk_4 d := fun d => by kernel_rfl
theorem lo_s_PathsOk_4 (cx : Cx) (hp : cx.pin.length ≤ 0) : LoopOk Tryz.prog cx Tryz.f221.ntmps Q_s_PathsOk (nthLoop Tryz.f221 0) := loop_of (cfgOk_of mixed tys_ok (show FnsOk Tryz.prog C_s_PathsOk from ⟨fn_s_AddrOk, fn_s_l1In, trivial⟩)) hp (all_of (by kernel_rfl : loopsOf (nthLoop Tryz.f221 0) = [nthLoop Tryz.f221 1]) ⟨lo_s_PathsOk_10 cx hp, trivial⟩) (by kernel_rfl) lp_s_PathsOk_4
theorem e_s_PathsOk : ∀ d, pcall ⟨lookT tys, ctrOf C_s_PathsOk, kindOf C_s_PathsOk, 3, 4⟩ 0 Q_s_PathsOk Tryz.f221 .plain (mkA P_s_PathsOk d) = (T_s_PathsOk d.1).run fun r => some (O_s_PathsOk r) := fun d => by kernel_rfl
theorem fn_s_PathsOk : Fn Tryz.prog 221 .plain F_s_PathsOk := fn_of (cfgOk_of mixed tys_ok (show FnsOk Tryz.prog C_s_PathsOk from ⟨fn_s_AddrOk, fn_s_l1In, trivial⟩)) Tryz.func221 (by kernel_rfl) (by kernel_rfl) (fun cx b hp hb => all_of (by kernel_rfl : loopsOf (Tryz.f221.body.getD .skip) = [nthLoop Tryz.f221 0]) ⟨lo_s_PathsOk_4 cx hp, trivial⟩ b hb) (R := (Bool × Unit)) (T := fun (d : aden P_s_PathsOk) => T_s_PathsOk d.1) e_s_PathsOk
def P_s_SessOk : List (Bool × List Sh) := [(true, h_13)]
def O_s_SessOk (r : (Bool × Unit)) : List RV × List RV := ([rv (false, [.bool]) r], [])
def C_s_SessOk : Fns := [(68, .plain, F_s_l1In), (200, .plain, F_s_l19NoChan), (220, .plain, F_s_Near), (201, .plain, F_s_ChanOk), (156, .plain, F_s_l1Same), (221, .plain, F_s_PathsOk)]
def F_s_SessOk : Fun1 := funV P_s_SessOk (fun d => (T_s_SessOk d.1).val) O_s_SessOk
def Q_s_SessOk : Loops := fun _ _ => .fail
theorem e_s_SessOk : ∀ d, pcall ⟨lookT tys, ctrOf C_s_SessOk, kindOf C_s_SessOk, 3, 4⟩ 0 Q_s_SessOk Tryz.f121 .plain (mkA P_s_SessOk d) = (T_s_SessOk d.1).run fun r => some (O_s_SessOk r) := fun d => by kernel_rfl
theorem fn_s_SessOk : Fn Tryz.prog 121 .plain F_s_SessOk := fn_of (cfgOk_of mixed tys_ok (show FnsOk Tryz.prog C_s_SessOk from ⟨fn_s_l1In, fn_s_l19NoChan, fn_s_Near, fn_s_ChanOk, fn_s_l1Same, fn_s_PathsOk, trivial⟩)) Tryz.func121 (by kernel_rfl) (by kernel_rfl) (fun cx b hp hb => all_of (by kernel_rfl : loopsOf (Tryz.f121.body.getD .skip) = []) trivial b hb) (R := (Bool × Unit)) (T := fun (d : aden P_s_SessOk) => T_s_SessOk d.1) e_s_SessOk
def P_s_PutN : List (Bool × List Sh) := [(false, [.sl 5 [.int .u8]]), (false, [.int .i64]), (false, [.int .i64])]
def O_s_PutN (r : (YBs)) : List RV × List RV := ([rv (false, [.sl 5 [.int .u8]]) r], [])
def C_s_PutN : Fns := []
def F_s_PutN : Fun1 := funV P_s_PutN (fun d => (T_s_PutN d.1 d.2.1 d.2.2.1).val) O_s_PutN
def K_s_PutN_5 : Sk := ⟨[(1, .v false [(.int .i64, .nil)]), (7, .v false [(.sl 5 [.int .u8], (.own 6000000))]), (8, .v false [(.int .i64, .nil)])], [], [6000000]⟩
def X_s_PutN_5 : List (Ex × Sk) := [((.exit 0), ⟨[(7, .v false [(.sl 5 [.int .u8], (.own 6000000))])], [], [6000000]⟩)]
def Q_s_PutN : Loops := fun i st => cond (Nat.beq i 5) (lam K_s_PutN_5 6000000 X_s_PutN_5 B_s_PutN_5 st) <| .fail
theorem lp_s_PutN_5 : ∀ d, bod ⟨lookT tys, ctrOf C_s_PutN, kindOf C_s_PutN, 3, 4⟩ 0 Tryz.f245.ntmps Q_s_PutN (nthLoop Tryz.f245 0) K_s_PutN_5 6000000 X_s_PutN_5 d = B_s_PutN_5 d := fun d => by kernel_rfl
theorem lo_s_PutN_5 (cx : Cx) (hp : cx.pin.length ≤ 0) : LoopOk Tryz.prog cx Tryz.f245.ntmps Q_s_PutN (nthLoop Tryz.f245 0) := loop_of (cfgOk_of mixed tys_ok (show FnsOk Tryz.prog C_s_PutN from trivial)) hp (all_of (by kernel_rfl : loopsOf (nthLoop Tryz.f245 0) = []) trivial) (by kernel_rfl) lp_s_PutN_5
theorem e_s_PutN : ∀ d, pcall ⟨lookT tys, ctrOf C_s_PutN, kindOf C_s_PutN, 3, 4⟩ 0 Q_s_PutN Tryz.f245 .plain (mkA P_s_PutN d) = (T_s_PutN d.1 d.2.1 d.2.2.1).run fun r => some (O_s_PutN r) := fun d => by kernel_rfl
theorem fn_s_PutN : Fn Tryz.prog 245 .plain F_s_PutN := fn_of (cfgOk_of mixed tys_ok (show FnsOk Tryz.prog C_s_PutN from trivial)) Tryz.func245 (by kernel_rfl) (by kernel_rfl) (fun cx b hp hb => all_of (by kernel_rfl : loopsOf (Tryz.f245.body.getD .skip) = [nthLoop Tryz.f245 0]) ⟨lo_s_PutN_5 cx hp, trivial⟩ b hb) (R := (YBs)) (T := fun (d : aden P_s_PutN) => T_s_PutN d.1 d.2.1 d.2.2.1) e_s_PutN
def P_s_HeadOf : List (Bool × List Sh) := [(false, [.int .i64]), (false, [.sl 5 [.int .u8]]), (false, [.int .i64]), (false, [.int .i64])]
def O_s_HeadOf (r : (YBs)) : List RV × List RV := ([rv (false, [.sl 5 [.int .u8]]) r], [])
def C_s_HeadOf : Fns := [(68, .plain, F_s_l1In), (245, .plain, F_s_PutN)]
def F_s_HeadOf : Fun1 := funV P_s_HeadOf (fun d => (T_s_HeadOf d.1 d.2.1 d.2.2.1 d.2.2.2.1).val) O_s_HeadOf
def Q_s_HeadOf : Loops := fun _ _ => .fail
theorem e_s_HeadOf : ∀ d, pcall ⟨lookT tys, ctrOf C_s_HeadOf, kindOf C_s_HeadOf, 3, 4⟩ 0 Q_s_HeadOf Tryz.f247 .plain (mkA P_s_HeadOf d) = (T_s_HeadOf d.1 d.2.1 d.2.2.1 d.2.2.2.1).run fun r => some (O_s_HeadOf r) := fun d => by kernel_rfl
theorem fn_s_HeadOf : Fn Tryz.prog 247 .plain F_s_HeadOf := fn_of (cfgOk_of mixed tys_ok (show FnsOk Tryz.prog C_s_HeadOf from ⟨fn_s_l1In, fn_s_PutN, trivial⟩)) Tryz.func247 (by kernel_rfl) (by kernel_rfl) (fun cx b hp hb => all_of (by kernel_rfl : loopsOf (Tryz.f247.body.getD .skip) = []) trivial b hb) (R := (YBs)) (T := fun (d : aden P_s_HeadOf) => T_s_HeadOf d.1 d.2.1 d.2.2.1 d.2.2.2.1) e_s_HeadOf
def P_s_Sealed : List (Bool × List Sh) := [(false, [.int .i64])]
def O_s_Sealed (r : (Bool × Unit)) : List RV × List RV := ([rv (false, [.bool]) r], [])
def C_s_Sealed : Fns := [(68, .plain, F_s_l1In)]
def F_s_Sealed : Fun1 := funV P_s_Sealed (fun d => (T_s_Sealed d.1).val) O_s_Sealed
def Q_s_Sealed : Loops := fun _ _ => .fail
theorem e_s_Sealed : ∀ d, pcall ⟨lookT tys, ctrOf C_s_Sealed, kindOf C_s_Sealed, 3, 4⟩ 0 Q_s_Sealed Tryz.f163 .plain (mkA P_s_Sealed d) = (T_s_Sealed d.1).run fun r => some (O_s_Sealed r) := fun d => by kernel_rfl
theorem fn_s_Sealed : Fn Tryz.prog 163 .plain F_s_Sealed := fn_of (cfgOk_of mixed tys_ok (show FnsOk Tryz.prog C_s_Sealed from ⟨fn_s_l1In, trivial⟩)) Tryz.func163 (by kernel_rfl) (by kernel_rfl) (fun cx b hp hb => all_of (by kernel_rfl : loopsOf (Tryz.f163.body.getD .skip) = []) trivial b hb) (R := (Bool × Unit)) (T := fun (d : aden P_s_Sealed) => T_s_Sealed d.1) e_s_Sealed
def P_s_l7Body : List (Bool × List Sh) := [(false, [.int .i64]), (false, [.int .i64])]
def O_s_l7Body (r : (Bool × Unit)) : List RV × List RV := ([rv (false, [.bool]) r], [])
def C_s_l7Body : Fns := []
def F_s_l7Body : Fun1 := funV P_s_l7Body (fun d => (T_s_l7Body d.1 d.2.1).val) O_s_l7Body
def Q_s_l7Body : Loops := fun _ _ => .fail
theorem e_s_l7Body : ∀ d, pcall ⟨lookT tys, ctrOf C_s_l7Body, kindOf C_s_l7Body, 3, 4⟩ 0 Q_s_l7Body Tryz.f238 .plain (mkA P_s_l7Body d) = (T_s_l7Body d.1 d.2.1).run fun r => some (O_s_l7Body r) := fun d => by kernel_rfl
theorem fn_s_l7Body : Fn Tryz.prog 238 .plain F_s_l7Body := fn_of (cfgOk_of mixed tys_ok (show FnsOk Tryz.prog C_s_l7Body from trivial)) Tryz.func238 (by kernel_rfl) (by kernel_rfl) (fun cx b hp hb => all_of (by kernel_rfl : loopsOf (Tryz.f238.body.getD .skip) = []) trivial b hb) (R := (Bool × Unit)) (T := fun (d : aden P_s_l7Body) => T_s_l7Body d.1 d.2.1) e_s_l7Body
def P_s_Pad : List (Bool × List Sh) := [(false, [.int .i64])]
def O_s_Pad (r : (YBs)) : List RV × List RV := ([rv (false, [.sl 5 [.int .u8]]) r], [])
def C_s_Pad : Fns := [(245, .plain, F_s_PutN)]
def F_s_Pad : Fun1 := funV P_s_Pad (fun d => (T_s_Pad d.1).val) O_s_Pad
def K_s_Pad_4 : Sk := ⟨[(0, .v false [(.int .i64, .nil)]), (3, .v false [(.sl 5 [.int .u8], (.own 5000000))])], [], [5000000]⟩
def X_s_Pad_4 : List (Ex × Sk) := [((.exit 0), ⟨[(0, .v false [(.int .i64, .nil)]), (3, .v false [(.sl 5 [.int .u8], (.own 5000000))])], [], [5000000]⟩)]
def Q_s_Pad : Loops := fun i st => cond (Nat.beq i 4) (lam K_s_Pad_4 5000000 X_s_Pad_4 B_s_Pad_4 st) <| .fail
theorem lp_s_Pad_4 : ∀ d, bod ⟨lookT tys, ctrOf C_s_Pad, kindOf C_s_Pad, 3, 4⟩ 0 Tryz.f330.ntmps Q_s_Pad (nthLoop Tryz.f330 0) K_s_Pad_4 5000000 X_s_Pad_4 d = B_s_Pad_4 d := fun d => by kernel_rfl
theorem lo_s_Pad_4 (cx : Cx) (hp : cx.pin.length ≤ 0) : LoopOk Tryz.prog cx Tryz.f330.ntmps Q_s_Pad (nthLoop Tryz.f330 0) := loop_of (cfgOk_of mixed tys_ok (show FnsOk Tryz.prog C_s_Pad from ⟨fn_s_PutN, trivial⟩)) hp (all_of (by kernel_rfl : loopsOf (nthLoop Tryz.f330 0) = []) trivial) (by kernel_rfl) lp_s_Pad_4
theorem e_s_Pad : ∀ d, pcall ⟨lookT tys, ctrOf C_s_Pad, kindOf C_s_Pad, 3, 4⟩ 0 Q_s_Pad Tryz.f330 .plain (mkA P_s_Pad d) = (T_s_Pad d.1).run fun r => some (O_s_Pad r) := fun d => by kernel_rfl
theorem fn_s_Pad : Fn Tryz.prog 330 .plain F_s_Pad := fn_of (cfgOk_of mixed tys_ok (show FnsOk Tryz.prog C_s_Pad from ⟨fn_s_PutN, trivial⟩)) Tryz.func330 (by kernel_rfl) (by kernel_rfl) (fun cx b hp hb => all_of (by kernel_rfl : loopsOf (Tryz.f330.body.getD .skip) = [nthLoop Tryz.f330 0]) ⟨lo_s_Pad_4 cx hp, trivial⟩ b hb) (R := (YBs)) (T := fun (d : aden P_s_Pad) => T_s_Pad d.1) e_s_Pad
def P_s_Start : List (Bool × List Sh) := []
def O_s_Start (r : ((List YI) × Unit)) : List RV × List RV := ([rv (false, [.sl 3 [.int .i64]]) r], [])
def C_s_Start : Fns := []
def F_s_Start : Fun1 := funV P_s_Start (fun d => (T_s_Start ).val) O_s_Start
def Q_s_Start : Loops := fun _ _ => .fail
theorem e_s_Start : ∀ d, pcall ⟨lookT tys, ctrOf C_s_Start, kindOf C_s_Start, 3, 4⟩ 0 Q_s_Start Tryz.f331 .plain (mkA P_s_Start d) = (T_s_Start ).run fun r => some (O_s_Start r) := fun d => by kernel_rfl
theorem fn_s_Start : Fn Tryz.prog 331 .plain F_s_Start := fn_of (cfgOk_of mixed tys_ok (show FnsOk Tryz.prog C_s_Start from trivial)) Tryz.func331 (by kernel_rfl) (by kernel_rfl) (fun cx b hp hb => all_of (by kernel_rfl : loopsOf (Tryz.f331.body.getD .skip) = []) trivial b hb) (R := ((List YI) × Unit)) (T := fun (d : aden P_s_Start) => T_s_Start ) e_s_Start
def P_s_l2Words : List (Bool × List Sh) := [(false, [.sl 3 [.int .i64]])]
def O_s_l2Words (r : (Bool × Unit)) : List RV × List RV := ([rv (false, [.bool]) r], [])
def C_s_l2Words : Fns := [(68, .plain, F_s_l1In)]
def F_s_l2Words : Fun1 := funV P_s_l2Words (fun d => (T_s_l2Words d.1).val) O_s_l2Words
def K_s_l2Words_2 : Sk := ⟨[(0, .v false [(.sl 3 [.int .i64], .ro)]), (3, .v false [(.int .i64, .nil)])], [], []⟩
def X_s_l2Words_2 : List (Ex × Sk) := [(.ret, ⟨[(2, .v false [(.bool, .nil)])], [], []⟩), ((.exit 0), ⟨[(0, .v false [(.sl 3 [.int .i64], .ro)])], [], []⟩)]
def Q_s_l2Words : Loops := fun i st => cond (Nat.beq i 2) (lam K_s_l2Words_2 3000000 X_s_l2Words_2 B_s_l2Words_2 st) <| .fail
theorem lp_s_l2Words_2 : ∀ d, bod ⟨lookT tys, ctrOf C_s_l2Words, kindOf C_s_l2Words, 3, 4⟩ 0 Tryz.f342.ntmps Q_s_l2Words (nthLoop Tryz.f342 0) K_s_l2Words_2 3000000 X_s_l2Words_2 d = B_s_l2Words_2 d := fun d => by kernel_rfl
theorem lo_s_l2Words_2 (cx : Cx) (hp : cx.pin.length ≤ 0) : LoopOk Tryz.prog cx Tryz.f342.ntmps Q_s_l2Words (nthLoop Tryz.f342 0) := loop_of (cfgOk_of mixed tys_ok (show FnsOk Tryz.prog C_s_l2Words from ⟨fn_s_l1In, trivial⟩)) hp (all_of (by kernel_rfl : loopsOf (nthLoop Tryz.f342 0) = []) trivial) (by kernel_rfl) lp_s_l2Words_2
theorem e_s_l2Words : ∀ d, pcall ⟨lookT tys, ctrOf C_s_l2Words, kindOf C_s_l2Words, 3, 4⟩ 0 Q_s_l2Words Tryz.f342 .plain (mkA P_s_l2Words d) = (T_s_l2Words d.1).run fun r => some (O_s_l2Words r) := fun d => by kernel_rfl
theorem fn_s_l2Words : Fn Tryz.prog 342 .plain F_s_l2Words := fn_of (cfgOk_of mixed tys_ok (show FnsOk Tryz.prog C_s_l2Words from ⟨fn_s_l1In, trivial⟩)) Tryz.func342 (by kernel_rfl) (by kernel_rfl) (fun cx b hp hb => all_of (by kernel_rfl : loopsOf (Tryz.f342.body.getD .skip) = [nthLoop Tryz.f342 0]) ⟨lo_s_l2Words_2 cx hp, trivial⟩ b hb) (R := (Bool × Unit)) (T := fun (d : aden P_s_l2Words) => T_s_l2Words d.1) e_s_l2Words
def P_s_l2K : List (Bool × List Sh) := []
def O_s_l2K (r : ((List YI) × Unit)) : List RV × List RV := ([rv (false, [.sl 3 [.int .i64]]) r], [])
def C_s_l2K : Fns := []
def F_s_l2K : Fun1 := funV P_s_l2K (fun d => (T_s_l2K ).val) O_s_l2K
def Q_s_l2K : Loops := fun _ _ => .fail
theorem e_s_l2K : ∀ d, pcall ⟨lookT tys, ctrOf C_s_l2K, kindOf C_s_l2K, 3, 4⟩ 0 Q_s_l2K Tryz.f343 .plain (mkA P_s_l2K d) = (T_s_l2K ).run fun r => some (O_s_l2K r) := fun d => by kernel_rfl
theorem fn_s_l2K : Fn Tryz.prog 343 .plain F_s_l2K := fn_of (cfgOk_of mixed tys_ok (show FnsOk Tryz.prog C_s_l2K from trivial)) Tryz.func343 (by kernel_rfl) (by kernel_rfl) (fun cx b hp hb => all_of (by kernel_rfl : loopsOf (Tryz.f343.body.getD .skip) = []) trivial b hb) (R := ((List YI) × Unit)) (T := fun (d : aden P_s_l2K) => T_s_l2K ) e_s_l2K
def P_s_GetN : List (Bool × List Sh) := [(false, [.sl 5 [.int .u8]]), (false, [.int .i64]), (false, [.int .i64])]
def O_s_GetN (r : (YI) × (YI) × (Bool × Unit)) : List RV × List RV := ([rv (false, [.int .i64]) r.1, rv (false, [.int .i64]) r.2.1, rv (false, [.bool]) r.2.2], [])
def C_s_GetN : Fns := []
def F_s_GetN : Fun1 := funV P_s_GetN (fun d => (T_s_GetN d.1 d.2.1 d.2.2.1).val) O_s_GetN
def K_s_GetN_5 : Sk := ⟨[(0, .v false [(.sl 5 [.int .u8], .ro)]), (1, .v false [(.int .i64, .nil)]), (2, .v false [(.int .i64, .nil)]), (9, .v false [(.int .i64, .nil)]), (10, .v false [(.int .i64, .nil)])], [], []⟩
def X_s_GetN_5 : List (Ex × Sk) := [((.exit 0), ⟨[(1, .v false [(.int .i64, .nil)]), (2, .v false [(.int .i64, .nil)]), (9, .v false [(.int .i64, .nil)])], [], []⟩)]
def Q_s_GetN : Loops := fun i st => cond (Nat.beq i 5) (lam K_s_GetN_5 6000000 X_s_GetN_5 B_s_GetN_5 st) <| .fail
theorem lp_s_GetN_5 : ∀ d, bod ⟨lookT tys, ctrOf C_s_GetN, kindOf C_s_GetN, 3, 4⟩ 0 Tryz.f351.ntmps Q_s_GetN (nthLoop Tryz.f351 0) K_s_GetN_5 6000000 X_s_GetN_5 d = B_s_GetN_5 d := fun d => by kernel_rfl
theorem lo_s_GetN_5 (cx : Cx) (hp : cx.pin.length ≤ 0) : LoopOk Tryz.prog cx Tryz.f351.ntmps Q_s_GetN (nthLoop Tryz.f351 0) := loop_of (cfgOk_of mixed tys_ok (show FnsOk Tryz.prog C_s_GetN from trivial)) hp (all_of (by kernel_rfl : loopsOf (nthLoop Tryz.f351 0) = []) trivial) (by kernel_rfl) lp_s_GetN_5
theorem e_s_GetN : ∀ d, pcall ⟨lookT tys, ctrOf C_s_GetN, kindOf C_s_GetN, 3, 4⟩ 0 Q_s_GetN Tryz.f351 .plain (mkA P_s_GetN d) = (T_s_GetN d.1 d.2.1 d.2.2.1).run fun r => some (O_s_GetN r) := fun d => by kernel_rfl
theorem fn_s_GetN : Fn Tryz.prog 351 .plain F_s_GetN := fn_of (cfgOk_of mixed tys_ok (show FnsOk Tryz.prog C_s_GetN from trivial)) Tryz.func351 (by kernel_rfl) (by kernel_rfl) (fun cx b hp hb => all_of (by kernel_rfl : loopsOf (Tryz.f351.body.getD .skip) = [nthLoop Tryz.f351 0]) ⟨lo_s_GetN_5 cx hp, trivial⟩ b hb) (R := (YI) × (YI) × (Bool × Unit)) (T := fun (d : aden P_s_GetN) => T_s_GetN d.1 d.2.1 d.2.2.1) e_s_GetN
def P_s_Rot : List (Bool × List Sh) := [(false, [.int .i64]), (false, [.int .i64])]
def O_s_Rot (r : (YI)) : List RV × List RV := ([rv (false, [.int .i64]) r], [])
def C_s_Rot : Fns := []
def F_s_Rot : Fun1 := funV P_s_Rot (fun d => (T_s_Rot d.1 d.2.1).val) O_s_Rot
def Q_s_Rot : Loops := fun _ _ => .fail
theorem e_s_Rot : ∀ d, pcall ⟨lookT tys, ctrOf C_s_Rot, kindOf C_s_Rot, 3, 4⟩ 0 Q_s_Rot Tryz.f345 .plain (mkA P_s_Rot d) = (T_s_Rot d.1 d.2.1).run fun r => some (O_s_Rot r) := fun d => by kernel_rfl
theorem fn_s_Rot : Fn Tryz.prog 345 .plain F_s_Rot := fn_of (cfgOk_of mixed tys_ok (show FnsOk Tryz.prog C_s_Rot from trivial)) Tryz.func345 (by kernel_rfl) (by kernel_rfl) (fun cx b hp hb => all_of (by kernel_rfl : loopsOf (Tryz.f345.body.getD .skip) = []) trivial b hb) (R := (YI)) (T := fun (d : aden P_s_Rot) => T_s_Rot d.1 d.2.1) e_s_Rot
def P_s_Schedule : List (Bool × List Sh) := [(false, [.sl 5 [.int .u8]])]
def O_s_Schedule (r : ((List YI) × Unit)) : List RV × List RV := ([rv (false, [.sl 3 [.int .i64]]) r], [])
def C_s_Schedule : Fns := [(351, .plain, F_s_GetN), (345, .plain, F_s_Rot)]
def F_s_Schedule : Fun1 := funV P_s_Schedule (fun d => (T_s_Schedule d.1).val) O_s_Schedule
def K_s_Schedule_10 : Sk := ⟨[(3, .v false [(.sl 3 [.int .i64], (.own 11000000))]), (8, .v false [(.int .i64, .nil)])], [], [11000000]⟩
def X_s_Schedule_10 : List (Ex × Sk) := [((.exit 2), ⟨[(3, .v false [(.sl 3 [.int .i64], (.own 11000000))])], [], [11000000]⟩)]
def K_s_Schedule_5 : Sk := ⟨[(0, .v false [(.sl 5 [.int .u8], .ro)]), (3, .v false [(.sl 3 [.int .i64], (.own 6000000))]), (4, .v false [(.int .i64, .nil)])], [], [6000000]⟩
def X_s_Schedule_5 : List (Ex × Sk) := [((.exit 0), ⟨[(3, .v false [(.sl 3 [.int .i64], (.own 6000000))])], [], [6000000]⟩)]
def Q_s_Schedule : Loops := fun i st => cond (Nat.beq i 5) (lam K_s_Schedule_5 6000000 X_s_Schedule_5 B_s_Schedule_5 st) <| cond (Nat.beq i 10) (lam K_s_Schedule_10 11000000 X_s_Schedule_10 B_s_Schedule_10 st) <| .fail
theorem lp_s_Schedule_5 : ∀ d, bod ⟨lookT tys, ctrOf C_s_Schedule, kindOf C_s_Schedule, 3, 4⟩ 0 Tryz.f344.ntmps Q_s_Schedule (nthLoop Tryz.f344 0) K_s_Schedule_5 6000000 X_s_Schedule_5 d = B_s_Schedule_5 d := fun d => by kernel_rfl
theorem lo_s_Schedule_5 (cx : Cx) (hp : cx.pin.length ≤ 0) : LoopOk Tryz.prog cx Tryz.f344.ntmps Q_s_Schedule (nthLoop Tryz.f344 0) := loop_of (cfgOk_of mixed tys_ok (show FnsOk Tryz.prog C_s_Schedule from ⟨fn_s_GetN, fn_s_Rot, trivial⟩)) hp (all_of (by kernel_rfl : loopsOf (nthLoop Tryz.f344 0) = []) trivial) (by kernel_rfl) lp_s_Schedule_5
theorem lp_s_Schedule_10 : ∀ d, bod ⟨lookT tys, ctrOf C_s_Schedule, kindOf C_s_Schedule, 3, 4⟩ 0 Tryz.f344.ntmps Q_s_Schedule (nthLoop Tryz.f344 1) K_s_Schedule_10 11000000 X_s_Schedule_10 d = B_s_Schedule_10 d := fun d => by kernel_rfl
theorem lo_s_Schedule_10 (cx : Cx) (hp : cx.pin.length ≤ 0) : LoopOk Tryz.prog cx Tryz.f344.ntmps Q_s_Schedule (nthLoop Tryz.f344 1) := loop_of (cfgOk_of mixed tys_ok (show FnsOk Tryz.prog C_s_Schedule from ⟨fn_s_GetN, fn_s_Rot, trivial⟩)) hp (all_of (by kernel_rfl : loopsOf (nthLoop Tryz.f344 1) = []) trivial) (by kernel_rfl) lp_s_Schedule_10
theorem e_s_Schedule : ∀ d, pcall ⟨lookT tys, ctrOf C_s_Schedule, kindOf C_s_Schedule, 3, 4⟩ 0 Q_s_Schedule Tryz.f344 .plain (mkA P_s_Schedule d) = (T_s_Schedule d.1).run fun r => some (O_s_Schedule r) := fun d => by kernel_rfl
theorem fn_s_Schedule : Fn Tryz.prog 344 .plain F_s_Schedule := fn_of (cfgOk_of mixed tys_ok (show FnsOk Tryz.prog C_s_Schedule from ⟨fn_s_GetN, fn_s_Rot, trivial⟩)) Tryz.func344 (by kernel_rfl) (by kernel_rfl) (fun cx b hp hb => all_of (by kernel_rfl : loopsOf (Tryz.f344.body.getD .skip) = [nthLoop Tryz.f344 0, nthLoop Tryz.f344 1]) ⟨lo_s_Schedule_5 cx hp, lo_s_Schedule_10 cx hp, trivial⟩ b hb) (R := ((List YI) × Unit)) (T := fun (d : aden P_s_Schedule) => T_s_Schedule d.1) e_s_Schedule
def P_s_Compress : List (Bool × List Sh) := [(false, [.sl 3 [.int .i64]]), (false, [.sl 5 [.int .u8]])]
def O_s_Compress (r : ((List YI) × Unit)) : List RV × List RV := ([rv (false, [.sl 3 [.int .i64]]) r], [])
def C_s_Compress : Fns := [(342, .plain, F_s_l2Words), (343, .plain, F_s_l2K), (344, .plain, F_s_Schedule), (345, .plain, F_s_Rot)]
def F_s_Compress : Fun1 := funV P_s_Compress (fun d => (T_s_Compress d.1 d.2.1).val) O_s_Compress
def K_s_Compress_22 : Sk := ⟨[(0, .v false [(.sl 3 [.int .i64], .ro)]), (5, .v false [(.sl 3 [.int .i64], (.own 23000000))]), (19, .v false [(.sl 3 [.int .i64], (.own 23000001))]), (20, .v false [(.int .i64, .nil)])], [], [23000000, 23000001]⟩
def X_s_Compress_22 : List (Ex × Sk) := [((.exit 2), ⟨[(5, .v false [(.sl 3 [.int .i64], (.own 23000000))])], [], [23000000]⟩)]
def K_s_Compress_8 : Sk := ⟨[(0, .v false [(.sl 3 [.int .i64], .ro)]), (5, .v false [(.sl 3 [.int .i64], (.own 9000000))]), (6, .v false [(.sl 3 [.int .i64], (.own 9000001))]), (7, .v false [(.sl 3 [.int .i64], (.own 9000002))]), (8, .v false [(.int .i64, .nil)]), (9, .v false [(.int .i64, .nil)]), (10, .v false [(.int .i64, .nil)]), (11, .v false [(.int .i64, .nil)]), (12, .v false [(.int .i64, .nil)]), (13, .v false [(.int .i64, .nil)]), (14, .v false [(.int .i64, .nil)]), (15, .v false [(.int .i64, .nil)]), (16, .v false [(.int .i64, .nil)])], [], [9000000, 9000001, 9000002]⟩
def X_s_Compress_8 : List (Ex × Sk) := [((.exit 0), ⟨[(0, .v false [(.sl 3 [.int .i64], .ro)]), (5, .v false [(.sl 3 [.int .i64], (.own 9000000))]), (8, .v false [(.int .i64, .nil)]), (9, .v false [(.int .i64, .nil)]), (10, .v false [(.int .i64, .nil)]), (11, .v false [(.int .i64, .nil)]), (12, .v false [(.int .i64, .nil)]), (13, .v false [(.int .i64, .nil)]), (14, .v false [(.int .i64, .nil)]), (15, .v false [(.int .i64, .nil)])], [], [9000000]⟩)]
def Q_s_Compress : Loops := fun i st => cond (Nat.beq i 8) (lam K_s_Compress_8 9000000 X_s_Compress_8 B_s_Compress_8 st) <| cond (Nat.beq i 22) (lam K_s_Compress_22 23000000 X_s_Compress_22 B_s_Compress_22 st) <| .fail
theorem lp_s_Compress_8 : ∀ d, bod ⟨lookT tys, ctrOf C_s_Compress, kindOf C_s_Compress, 3, 4⟩ 0 Tryz.f332.ntmps Q_s_Compress (nthLoop Tryz.f332 0) K_s_Compress_8 9000000 X_s_Compress_8 d = B_s_Compress_8 d := fun d => by kernel_rfl
theorem lo_s_Compress_8 (cx : Cx) (hp : cx.pin.length ≤ 0) : LoopOk Tryz.prog cx Tryz.f332.ntmps Q_s_Compress (nthLoop Tryz.f332 0) := loop_of (cfgOk_of mixed tys_ok (show FnsOk Tryz.prog C_s_Compress from ⟨fn_s_l2Words, fn_s_l2K, fn_s_Schedule, fn_s_Rot, trivial⟩)) hp (all_of (by kernel_rfl : loopsOf (nthLoop Tryz.f332 0) = []) trivial) (by kernel_rfl) lp_s_Compress_8
theorem lp_s_Compress_22 : ∀ d, bod ⟨lookT tys, ctrOf C_s_Compress, kindOf C_s_Compress, 3, 4⟩ 0 Tryz.f332.ntmps Q_s_Compress (nthLoop Tryz.f332 1) K_s_Compress_22 23000000 X_s_Compress_22 d = B_s_Compress_22 d := fun d => by kernel_rfl
theorem lo_s_Compress_22 (cx : Cx) (hp : cx.pin.length ≤ 0) : LoopOk Tryz.prog cx Tryz.f332.ntmps Q_s_Compress (nthLoop Tryz.f332 1) := loop_of (cfgOk_of mixed tys_ok (show FnsOk Tryz.prog C_s_Compress from ⟨fn_s_l2Words, fn_s_l2K, fn_s_Schedule, fn_s_Rot, trivial⟩)) hp (all_of (by kernel_rfl : loopsOf (nthLoop Tryz.f332 1) = []) trivial) (by kernel_rfl) lp_s_Compress_22
theorem e_s_Compress : ∀ d, pcall ⟨lookT tys, ctrOf C_s_Compress, kindOf C_s_Compress, 3, 4⟩ 0 Q_s_Compress Tryz.f332 .plain (mkA P_s_Compress d) = (T_s_Compress d.1 d.2.1).run fun r => some (O_s_Compress r) := fun d => by kernel_rfl
theorem fn_s_Compress : Fn Tryz.prog 332 .plain F_s_Compress := fn_of (cfgOk_of mixed tys_ok (show FnsOk Tryz.prog C_s_Compress from ⟨fn_s_l2Words, fn_s_l2K, fn_s_Schedule, fn_s_Rot, trivial⟩)) Tryz.func332 (by kernel_rfl) (by kernel_rfl) (fun cx b hp hb => all_of (by kernel_rfl : loopsOf (Tryz.f332.body.getD .skip) = [nthLoop Tryz.f332 0, nthLoop Tryz.f332 1]) ⟨lo_s_Compress_8 cx hp, lo_s_Compress_22 cx hp, trivial⟩ b hb) (R := ((List YI) × Unit)) (T := fun (d : aden P_s_Compress) => T_s_Compress d.1 d.2.1) e_s_Compress
def P_s_l2Out : List (Bool × List Sh) := [(false, [.sl 3 [.int .i64]])]
def O_s_l2Out (r : (YBs)) : List RV × List RV := ([rv (false, [.sl 5 [.int .u8]]) r], [])
def C_s_l2Out : Fns := [(245, .plain, F_s_PutN)]
def F_s_l2Out : Fun1 := funV P_s_l2Out (fun d => (T_s_l2Out d.1).val) O_s_l2Out
def K_s_l2Out_3 : Sk := ⟨[(0, .v false [(.sl 3 [.int .i64], .ro)]), (3, .v false [(.sl 5 [.int .u8], (.own 4000000))]), (4, .v false [(.int .i64, .nil)])], [], [4000000]⟩
def X_s_l2Out_3 : List (Ex × Sk) := [((.exit 0), ⟨[(3, .v false [(.sl 5 [.int .u8], (.own 4000000))])], [], [4000000]⟩)]
def Q_s_l2Out : Loops := fun i st => cond (Nat.beq i 3) (lam K_s_l2Out_3 4000000 X_s_l2Out_3 B_s_l2Out_3 st) <| .fail
theorem lp_s_l2Out_3 : ∀ d, bod ⟨lookT tys, ctrOf C_s_l2Out, kindOf C_s_l2Out, 3, 4⟩ 0 Tryz.f333.ntmps Q_s_l2Out (nthLoop Tryz.f333 0) K_s_l2Out_3 4000000 X_s_l2Out_3 d = B_s_l2Out_3 d := fun d => by kernel_rfl
theorem lo_s_l2Out_3 (cx : Cx) (hp : cx.pin.length ≤ 0) : LoopOk Tryz.prog cx Tryz.f333.ntmps Q_s_l2Out (nthLoop Tryz.f333 0) := loop_of (cfgOk_of mixed tys_ok (show FnsOk Tryz.prog C_s_l2Out from ⟨fn_s_PutN, trivial⟩)) hp (all_of (by kernel_rfl : loopsOf (nthLoop Tryz.f333 0) = []) trivial) (by kernel_rfl) lp_s_l2Out_3
theorem e_s_l2Out : ∀ d, pcall ⟨lookT tys, ctrOf C_s_l2Out, kindOf C_s_l2Out, 3, 4⟩ 0 Q_s_l2Out Tryz.f333 .plain (mkA P_s_l2Out d) = (T_s_l2Out d.1).run fun r => some (O_s_l2Out r) := fun d => by kernel_rfl
theorem fn_s_l2Out : Fn Tryz.prog 333 .plain F_s_l2Out := fn_of (cfgOk_of mixed tys_ok (show FnsOk Tryz.prog C_s_l2Out from ⟨fn_s_PutN, trivial⟩)) Tryz.func333 (by kernel_rfl) (by kernel_rfl) (fun cx b hp hb => all_of (by kernel_rfl : loopsOf (Tryz.f333.body.getD .skip) = [nthLoop Tryz.f333 0]) ⟨lo_s_l2Out_3 cx hp, trivial⟩ b hb) (R := (YBs)) (T := fun (d : aden P_s_l2Out) => T_s_l2Out d.1) e_s_l2Out
def P_s_Sha : List (Bool × List Sh) := [(false, [.sl 5 [.int .u8]])]
def O_s_Sha (r : (YBs)) : List RV × List RV := ([rv (false, [.sl 5 [.int .u8]]) r], [])
def C_s_Sha : Fns := [(330, .plain, F_s_Pad), (331, .plain, F_s_Start), (332, .plain, F_s_Compress), (333, .plain, F_s_l2Out)]
def F_s_Sha : Fun1 := funV P_s_Sha (fun d => (T_s_Sha d.1).val) O_s_Sha
def K_s_Sha_6 : Sk := ⟨[(3, .v false [(.sl 5 [.int .u8], (.own 7000000))]), (4, .v false [(.sl 3 [.int .i64], (.own 7000001))]), (5, .v false [(.int .i64, .nil)])], [], [7000000, 7000001]⟩
def X_s_Sha_6 : List (Ex × Sk) := [((.exit 0), ⟨[(4, .v false [(.sl 3 [.int .i64], (.own 7000000))])], [], [7000000]⟩)]
def Q_s_Sha : Loops := fun i st => cond (Nat.beq i 6) (lam K_s_Sha_6 7000000 X_s_Sha_6 B_s_Sha_6 st) <| .fail
theorem lp_s_Sha_6 : ∀ d, bod ⟨lookT tys, ctrOf C_s_Sha, kindOf C_s_Sha, 3, 4⟩ 0 Tryz.f316.ntmps Q_s_Sha (nthLoop Tryz.f316 0) K_s_Sha_6 7000000 X_s_Sha_6 d = B_s_Sha_6 d := fun d => by kernel_rfl
theorem lo_s_Sha_6 (cx : Cx) (hp : cx.pin.length ≤ 0) : LoopOk Tryz.prog cx Tryz.f316.ntmps Q_s_Sha (nthLoop Tryz.f316 0) := loop_of (cfgOk_of mixed tys_ok (show FnsOk Tryz.prog C_s_Sha from ⟨fn_s_Pad, fn_s_Start, fn_s_Compress, fn_s_l2Out, trivial⟩)) hp (all_of (by kernel_rfl : loopsOf (nthLoop Tryz.f316 0) = []) trivial) (by kernel_rfl) lp_s_Sha_6
theorem e_s_Sha : ∀ d, pcall ⟨lookT tys, ctrOf C_s_Sha, kindOf C_s_Sha, 3, 4⟩ 0 Q_s_Sha Tryz.f316 .plain (mkA P_s_Sha d) = (T_s_Sha d.1).run fun r => some (O_s_Sha r) := fun d => by kernel_rfl
theorem fn_s_Sha : Fn Tryz.prog 316 .plain F_s_Sha := fn_of (cfgOk_of mixed tys_ok (show FnsOk Tryz.prog C_s_Sha from ⟨fn_s_Pad, fn_s_Start, fn_s_Compress, fn_s_l2Out, trivial⟩)) Tryz.func316 (by kernel_rfl) (by kernel_rfl) (fun cx b hp hb => all_of (by kernel_rfl : loopsOf (Tryz.f316.body.getD .skip) = [nthLoop Tryz.f316 0]) ⟨lo_s_Sha_6 cx hp, trivial⟩ b hb) (R := (YBs)) (T := fun (d : aden P_s_Sha) => T_s_Sha d.1) e_s_Sha
def P_s_BlockKey : List (Bool × List Sh) := [(false, [.sl 5 [.int .u8]])]
def O_s_BlockKey (r : (YBs)) : List RV × List RV := ([rv (false, [.sl 5 [.int .u8]]) r], [])
def C_s_BlockKey : Fns := [(316, .plain, F_s_Sha)]
def F_s_BlockKey : Fun1 := funV P_s_BlockKey (fun d => (T_s_BlockKey d.1).val) O_s_BlockKey
def K_s_BlockKey_6 : Sk := ⟨[(3, .v false [(.sl 5 [.int .u8], (.own 7000000))])], [], [7000000]⟩
def X_s_BlockKey_6 : List (Ex × Sk) := [((.exit 0), ⟨[(3, .v false [(.sl 5 [.int .u8], (.own 7000000))])], [], [7000000]⟩)]
def Q_s_BlockKey : Loops := fun i st => cond (Nat.beq i 6) (lam K_s_BlockKey_6 7000000 X_s_BlockKey_6 B_s_BlockKey_6 st) <| .fail
theorem lp_s_BlockKey_6 : ∀ d, bod ⟨lookT tys, ctrOf C_s_BlockKey, kindOf C_s_BlockKey, 3, 4⟩ 0 Tryz.f315.ntmps Q_s_BlockKey (nthLoop Tryz.f315 0) K_s_BlockKey_6 7000000 X_s_BlockKey_6 d = B_s_BlockKey_6 d := fun d => by kernel_rfl
theorem lo_s_BlockKey_6 (cx : Cx) (hp : cx.pin.length ≤ 0) : LoopOk Tryz.prog cx Tryz.f315.ntmps Q_s_BlockKey (nthLoop Tryz.f315 0) := loop_of (cfgOk_of mixed tys_ok (show FnsOk Tryz.prog C_s_BlockKey from ⟨fn_s_Sha, trivial⟩)) hp (all_of (by kernel_rfl : loopsOf (nthLoop Tryz.f315 0) = []) trivial) (by kernel_rfl) lp_s_BlockKey_6
theorem e_s_BlockKey : ∀ d, pcall ⟨lookT tys, ctrOf C_s_BlockKey, kindOf C_s_BlockKey, 3, 4⟩ 0 Q_s_BlockKey Tryz.f315 .plain (mkA P_s_BlockKey d) = (T_s_BlockKey d.1).run fun r => some (O_s_BlockKey r) := fun d => by kernel_rfl
theorem fn_s_BlockKey : Fn Tryz.prog 315 .plain F_s_BlockKey := fn_of (cfgOk_of mixed tys_ok (show FnsOk Tryz.prog C_s_BlockKey from ⟨fn_s_Sha, trivial⟩)) Tryz.func315 (by kernel_rfl) (by kernel_rfl) (fun cx b hp hb => all_of (by kernel_rfl : loopsOf (Tryz.f315.body.getD .skip) = [nthLoop Tryz.f315 0]) ⟨lo_s_BlockKey_6 cx hp, trivial⟩ b hb) (R := (YBs)) (T := fun (d : aden P_s_BlockKey) => T_s_BlockKey d.1) e_s_BlockKey
def P_s_Hmac : List (Bool × List Sh) := [(false, [.sl 5 [.int .u8]]), (false, [.sl 5 [.int .u8]])]
def O_s_Hmac (r : (YBs)) : List RV × List RV := ([rv (false, [.sl 5 [.int .u8]]) r], [])
def C_s_Hmac : Fns := [(315, .plain, F_s_BlockKey), (316, .plain, F_s_Sha)]
def F_s_Hmac : Fun1 := funV P_s_Hmac (fun d => (T_s_Hmac d.1 d.2.1).val) O_s_Hmac
def K_s_Hmac_7 : Sk := ⟨[(1, .v false [(.sl 5 [.int .u8], .ro)]), (5, .v false [(.sl 5 [.int .u8], (.own 8000000))]), (6, .v false [(.sl 5 [.int .u8], (.own 8000001))]), (7, .v false [(.sl 5 [.int .u8], (.own 8000002))]), (8, .v false [(.int .i64, .nil)])], [], [8000000, 8000001, 8000002]⟩
def X_s_Hmac_7 : List (Ex × Sk) := [((.exit 0), ⟨[(1, .v false [(.sl 5 [.int .u8], .ro)]), (6, .v false [(.sl 5 [.int .u8], (.own 8000000))]), (7, .v false [(.sl 5 [.int .u8], (.own 8000001))])], [], [8000000, 8000001]⟩)]
def Q_s_Hmac : Loops := fun i st => cond (Nat.beq i 7) (lam K_s_Hmac_7 8000000 X_s_Hmac_7 B_s_Hmac_7 st) <| .fail
theorem lp_s_Hmac_7 : ∀ d, bod ⟨lookT tys, ctrOf C_s_Hmac, kindOf C_s_Hmac, 3, 4⟩ 0 Tryz.f289.ntmps Q_s_Hmac (nthLoop Tryz.f289 0) K_s_Hmac_7 8000000 X_s_Hmac_7 d = B_s_Hmac_7 d := fun d => by kernel_rfl
theorem lo_s_Hmac_7 (cx : Cx) (hp : cx.pin.length ≤ 0) : LoopOk Tryz.prog cx Tryz.f289.ntmps Q_s_Hmac (nthLoop Tryz.f289 0) := loop_of (cfgOk_of mixed tys_ok (show FnsOk Tryz.prog C_s_Hmac from ⟨fn_s_BlockKey, fn_s_Sha, trivial⟩)) hp (all_of (by kernel_rfl : loopsOf (nthLoop Tryz.f289 0) = []) trivial) (by kernel_rfl) lp_s_Hmac_7
theorem e_s_Hmac : ∀ d, pcall ⟨lookT tys, ctrOf C_s_Hmac, kindOf C_s_Hmac, 3, 4⟩ 0 Q_s_Hmac Tryz.f289 .plain (mkA P_s_Hmac d) = (T_s_Hmac d.1 d.2.1).run fun r => some (O_s_Hmac r) := fun d => by kernel_rfl
theorem fn_s_Hmac : Fn Tryz.prog 289 .plain F_s_Hmac := fn_of (cfgOk_of mixed tys_ok (show FnsOk Tryz.prog C_s_Hmac from ⟨fn_s_BlockKey, fn_s_Sha, trivial⟩)) Tryz.func289 (by kernel_rfl) (by kernel_rfl) (fun cx b hp hb => all_of (by kernel_rfl : loopsOf (Tryz.f289.body.getD .skip) = [nthLoop Tryz.f289 0]) ⟨lo_s_Hmac_7 cx hp, trivial⟩ b hb) (R := (YBs)) (T := fun (d : aden P_s_Hmac) => T_s_Hmac d.1 d.2.1) e_s_Hmac
def P_s_BlockOf : List (Bool × List Sh) := [(false, [.sl 5 [.int .u8]]), (false, [.sl 5 [.int .u8]]), (false, [.int .i64])]
def O_s_BlockOf (r : (YBs)) : List RV × List RV := ([rv (false, [.sl 5 [.int .u8]]) r], [])
def C_s_BlockOf : Fns := [(68, .plain, F_s_l1In), (245, .plain, F_s_PutN), (289, .plain, F_s_Hmac)]
def F_s_BlockOf : Fun1 := funV P_s_BlockOf (fun d => (T_s_BlockOf d.1 d.2.1 d.2.2.1).val) O_s_BlockOf
def Q_s_BlockOf : Loops := fun _ _ => .fail
theorem e_s_BlockOf : ∀ d, pcall ⟨lookT tys, ctrOf C_s_BlockOf, kindOf C_s_BlockOf, 3, 4⟩ 0 Q_s_BlockOf Tryz.f340 .plain (mkA P_s_BlockOf d) = (T_s_BlockOf d.1 d.2.1 d.2.2.1).run fun r => some (O_s_BlockOf r) := fun d => by kernel_rfl
theorem fn_s_BlockOf : Fn Tryz.prog 340 .plain F_s_BlockOf := fn_of (cfgOk_of mixed tys_ok (show FnsOk Tryz.prog C_s_BlockOf from ⟨fn_s_l1In, fn_s_PutN, fn_s_Hmac, trivial⟩)) Tryz.func340 (by kernel_rfl) (by kernel_rfl) (fun cx b hp hb => all_of (by kernel_rfl : loopsOf (Tryz.f340.body.getD .skip) = []) trivial b hb) (R := (YBs)) (T := fun (d : aden P_s_BlockOf) => T_s_BlockOf d.1 d.2.1 d.2.2.1) e_s_BlockOf
def P_s_Stream : List (Bool × List Sh) := [(false, [.sl 5 [.int .u8]]), (false, [.sl 5 [.int .u8]]), (false, [.int .i64])]
def O_s_Stream (r : (YBs)) : List RV × List RV := ([rv (false, [.sl 5 [.int .u8]]) r], [])
def C_s_Stream : Fns := [(68, .plain, F_s_l1In), (340, .plain, F_s_BlockOf)]
def F_s_Stream : Fun1 := funV P_s_Stream (fun d => (T_s_Stream d.1 d.2.1 d.2.2.1).val) O_s_Stream
def K_s_Stream_5 : Sk := ⟨[(0, .v false [(.sl 5 [.int .u8], .ro)]), (1, .v false [(.sl 5 [.int .u8], .ro)]), (2, .v false [(.int .i64, .nil)]), (7, .v false [(.sl 5 [.int .u8], (.own 6000000))]), (8, .v false [(.int .i64, .nil)])], [], [6000000]⟩
def X_s_Stream_5 : List (Ex × Sk) := [((.exit 0), ⟨[(2, .v false [(.int .i64, .nil)]), (7, .v false [(.sl 5 [.int .u8], (.own 6000000))])], [], [6000000]⟩)]
def Q_s_Stream : Loops := fun i st => cond (Nat.beq i 5) (lam K_s_Stream_5 6000000 X_s_Stream_5 B_s_Stream_5 st) <| .fail
theorem lp_s_Stream_5 : ∀ d, bod ⟨lookT tys, ctrOf C_s_Stream, kindOf C_s_Stream, 3, 4⟩ 0 Tryz.f326.ntmps Q_s_Stream (nthLoop Tryz.f326 0) K_s_Stream_5 6000000 X_s_Stream_5 d = B_s_Stream_5 d := fun d => by kernel_rfl
theorem lo_s_Stream_5 (cx : Cx) (hp : cx.pin.length ≤ 0) : LoopOk Tryz.prog cx Tryz.f326.ntmps Q_s_Stream (nthLoop Tryz.f326 0) := loop_of (cfgOk_of mixed tys_ok (show FnsOk Tryz.prog C_s_Stream from ⟨fn_s_l1In, fn_s_BlockOf, trivial⟩)) hp (all_of (by kernel_rfl : loopsOf (nthLoop Tryz.f326 0) = []) trivial) (by kernel_rfl) lp_s_Stream_5
theorem e_s_Stream : ∀ d, pcall ⟨lookT tys, ctrOf C_s_Stream, kindOf C_s_Stream, 3, 4⟩ 0 Q_s_Stream Tryz.f326 .plain (mkA P_s_Stream d) = (T_s_Stream d.1 d.2.1 d.2.2.1).run fun r => some (O_s_Stream r) := fun d => by kernel_rfl
theorem fn_s_Stream : Fn Tryz.prog 326 .plain F_s_Stream := fn_of (cfgOk_of mixed tys_ok (show FnsOk Tryz.prog C_s_Stream from ⟨fn_s_l1In, fn_s_BlockOf, trivial⟩)) Tryz.func326 (by kernel_rfl) (by kernel_rfl) (fun cx b hp hb => all_of (by kernel_rfl : loopsOf (Tryz.f326.body.getD .skip) = [nthLoop Tryz.f326 0]) ⟨lo_s_Stream_5 cx hp, trivial⟩ b hb) (R := (YBs)) (T := fun (d : aden P_s_Stream) => T_s_Stream d.1 d.2.1 d.2.2.1) e_s_Stream
def P_s_Mix : List (Bool × List Sh) := [(false, [.sl 5 [.int .u8]]), (false, [.sl 5 [.int .u8]]), (false, [.sl 5 [.int .u8]])]
def O_s_Mix (r : (YBs)) : List RV × List RV := ([rv (false, [.sl 5 [.int .u8]]) r], [])
def C_s_Mix : Fns := [(326, .plain, F_s_Stream)]
def F_s_Mix : Fun1 := funV P_s_Mix (fun d => (T_s_Mix d.1 d.2.1 d.2.2.1).val) O_s_Mix
def K_s_Mix_6 : Sk := ⟨[(2, .v false [(.sl 5 [.int .u8], .ro)]), (7, .v false [(.sl 5 [.int .u8], (.own 7000000))]), (8, .v false [(.sl 5 [.int .u8], (.own 7000001))]), (9, .v false [(.int .i64, .nil)])], [], [7000000, 7000001]⟩
def X_s_Mix_6 : List (Ex × Sk) := [((.exit 0), ⟨[(7, .v false [(.sl 5 [.int .u8], (.own 7000000))])], [], [7000000]⟩)]
def Q_s_Mix : Loops := fun i st => cond (Nat.beq i 6) (lam K_s_Mix_6 7000000 X_s_Mix_6 B_s_Mix_6 st) <| .fail
theorem lp_s_Mix_6 : ∀ d, bod ⟨lookT tys, ctrOf C_s_Mix, kindOf C_s_Mix, 3, 4⟩ 0 Tryz.f307.ntmps Q_s_Mix (nthLoop Tryz.f307 0) K_s_Mix_6 7000000 X_s_Mix_6 d = B_s_Mix_6 d := fun d => by kernel_rfl
theorem lo_s_Mix_6 (cx : Cx) (hp : cx.pin.length ≤ 0) : LoopOk Tryz.prog cx Tryz.f307.ntmps Q_s_Mix (nthLoop Tryz.f307 0) := loop_of (cfgOk_of mixed tys_ok (show FnsOk Tryz.prog C_s_Mix from ⟨fn_s_Stream, trivial⟩)) hp (all_of (by kernel_rfl : loopsOf (nthLoop Tryz.f307 0) = []) trivial) (by kernel_rfl) lp_s_Mix_6
theorem e_s_Mix : ∀ d, pcall ⟨lookT tys, ctrOf C_s_Mix, kindOf C_s_Mix, 3, 4⟩ 0 Q_s_Mix Tryz.f307 .plain (mkA P_s_Mix d) = (T_s_Mix d.1 d.2.1 d.2.2.1).run fun r => some (O_s_Mix r) := fun d => by kernel_rfl
theorem fn_s_Mix : Fn Tryz.prog 307 .plain F_s_Mix := fn_of (cfgOk_of mixed tys_ok (show FnsOk Tryz.prog C_s_Mix from ⟨fn_s_Stream, trivial⟩)) Tryz.func307 (by kernel_rfl) (by kernel_rfl) (fun cx b hp hb => all_of (by kernel_rfl : loopsOf (Tryz.f307.body.getD .skip) = [nthLoop Tryz.f307 0]) ⟨lo_s_Mix_6 cx hp, trivial⟩ b hb) (R := (YBs)) (T := fun (d : aden P_s_Mix) => T_s_Mix d.1 d.2.1 d.2.2.1) e_s_Mix
def P_s_FrameOk : List (Bool × List Sh) := [(true, h_9)]
def O_s_FrameOk (r : (Bool × Unit)) : List RV × List RV := ([rv (false, [.bool]) r], [])
def C_s_FrameOk : Fns := [(163, .plain, F_s_Sealed), (68, .plain, F_s_l1In), (238, .plain, F_s_l7Body)]
def F_s_FrameOk : Fun1 := funV P_s_FrameOk (fun d => (T_s_FrameOk d.1).val) O_s_FrameOk
def Q_s_FrameOk : Loops := fun _ _ => .fail
theorem e_s_FrameOk : ∀ d, pcall ⟨lookT tys, ctrOf C_s_FrameOk, kindOf C_s_FrameOk, 3, 4⟩ 0 Q_s_FrameOk Tryz.f155 .plain (mkA P_s_FrameOk d) = (T_s_FrameOk d.1).run fun r => some (O_s_FrameOk r) := fun d => by kernel_rfl
theorem fn_s_FrameOk : Fn Tryz.prog 155 .plain F_s_FrameOk := fn_of (cfgOk_of mixed tys_ok (show FnsOk Tryz.prog C_s_FrameOk from ⟨fn_s_Sealed, fn_s_l1In, fn_s_l7Body, trivial⟩)) Tryz.func155 (by kernel_rfl) (by kernel_rfl) (fun cx b hp hb => all_of (by kernel_rfl : loopsOf (Tryz.f155.body.getD .skip) = []) trivial b hb) (R := (Bool × Unit)) (T := fun (d : aden P_s_FrameOk) => T_s_FrameOk d.1) e_s_FrameOk
def P_s_TagInput : List (Bool × List Sh) := [(false, [.int .i64]), (true, h_9)]
def O_s_TagInput (r : (YBs)) : List RV × List RV := ([rv (false, [.sl 5 [.int .u8]]) r], [])
def C_s_TagInput : Fns := [(68, .plain, F_s_l1In), (155, .plain, F_s_FrameOk), (163, .plain, F_s_Sealed), (247, .plain, F_s_HeadOf)]
def F_s_TagInput : Fun1 := funV P_s_TagInput (fun d => (T_s_TagInput d.1 d.2.1).val) O_s_TagInput
def Q_s_TagInput : Loops := fun _ _ => .fail
theorem e_s_TagInput : ∀ d, pcall ⟨lookT tys, ctrOf C_s_TagInput, kindOf C_s_TagInput, 3, 4⟩ 0 Q_s_TagInput Tryz.f167 .plain (mkA P_s_TagInput d) = (T_s_TagInput d.1 d.2.1).run fun r => some (O_s_TagInput r) := fun d => by kernel_rfl
theorem fn_s_TagInput : Fn Tryz.prog 167 .plain F_s_TagInput := fn_of (cfgOk_of mixed tys_ok (show FnsOk Tryz.prog C_s_TagInput from ⟨fn_s_l1In, fn_s_FrameOk, fn_s_Sealed, fn_s_HeadOf, trivial⟩)) Tryz.func167 (by kernel_rfl) (by kernel_rfl) (fun cx b hp hb => all_of (by kernel_rfl : loopsOf (Tryz.f167.body.getD .skip) = []) trivial b hb) (R := (YBs)) (T := fun (d : aden P_s_TagInput) => T_s_TagInput d.1 d.2.1) e_s_TagInput
def P_s_Tag : List (Bool × List Sh) := [(false, [.sl 5 [.int .u8]]), (false, [.sl 5 [.int .u8]])]
def O_s_Tag (r : (YBs)) : List RV × List RV := ([rv (false, [.sl 5 [.int .u8]]) r], [])
def C_s_Tag : Fns := [(289, .plain, F_s_Hmac)]
def F_s_Tag : Fun1 := funV P_s_Tag (fun d => (T_s_Tag d.1 d.2.1).val) O_s_Tag
def Q_s_Tag : Loops := fun _ _ => .fail
theorem e_s_Tag : ∀ d, pcall ⟨lookT tys, ctrOf C_s_Tag, kindOf C_s_Tag, 3, 4⟩ 0 Q_s_Tag Tryz.f291 .plain (mkA P_s_Tag d) = (T_s_Tag d.1 d.2.1).run fun r => some (O_s_Tag r) := fun d => by kernel_rfl
theorem fn_s_Tag : Fn Tryz.prog 291 .plain F_s_Tag := fn_of (cfgOk_of mixed tys_ok (show FnsOk Tryz.prog C_s_Tag from ⟨fn_s_Hmac, trivial⟩)) Tryz.func291 (by kernel_rfl) (by kernel_rfl) (fun cx b hp hb => all_of (by kernel_rfl : loopsOf (Tryz.f291.body.getD .skip) = []) trivial b hb) (R := (YBs)) (T := fun (d : aden P_s_Tag) => T_s_Tag d.1 d.2.1) e_s_Tag
def P_s_Seal : List (Bool × List Sh) := [(false, [.sl 5 [.int .u8]]), (false, [.int .i64]), (false, [.sl 5 [.int .u8]]), (false, [.int .i64]), (false, [.int .i64]), (false, [.int .i64]), (false, [.sl 5 [.int .u8]])]
def O_s_Seal (r : (YFrame) × (Bool × Unit)) : List RV × List RV := ([rv (true, h_9) r.1, rv (false, [.bool]) r.2], [])
def C_s_Seal : Fns := [(247, .plain, F_s_HeadOf), (163, .plain, F_s_Sealed), (238, .plain, F_s_l7Body), (307, .plain, F_s_Mix), (167, .plain, F_s_TagInput), (291, .plain, F_s_Tag)]
def F_s_Seal : Fun1 := funV P_s_Seal (fun d => (T_s_Seal d.1 d.2.1 d.2.2.1 d.2.2.2.1 d.2.2.2.2.1 d.2.2.2.2.2.1 d.2.2.2.2.2.2.1).val) O_s_Seal
def K_s_Seal_6 : Sk := ⟨[(0, .v false [(.sl 5 [.int .u8], .ro)]), (1, .v false [(.int .i64, .nil)]), (14, .box 14 0), (17, .box 17 0), (18, .v false [(.int .i64, .nil)])], [(14, [(.int .i64, .nil), (.int .i64, .nil), (.sl 5 [.int .u8], (.own 7000000)), (.sl 5 [.int .u8], (.own 7000001)), (.int .i64, .nil), (.sl 5 [.int .u8], (.own 7000002)), (.sl 5 [.int .u8], (.own 7000003)), (.int .i64, .nil), (.int .i64, .nil), (.sl 5 [.int .u8], (.own 7000004)), (.sl 5 [.int .u8], (.own 7000005))]), (17, [(.int .i64, .nil), (.int .i64, .nil), (.sl 5 [.int .u8], (.own 7000006)), (.sl 5 [.int .u8], (.own 7000007)), (.int .i64, .nil), (.sl 5 [.int .u8], (.own 7000008)), (.sl 5 [.int .u8], (.own 7000009)), (.int .i64, .nil), (.int .i64, .nil), (.sl 5 [.int .u8], (.own 7000010)), (.sl 5 [.int .u8], (.own 7000011))])], [7000000, 7000001, 7000002, 7000003, 7000004, 7000005, 7000006, 7000007, 7000008, 7000009, 7000010, 7000011]⟩
def X_s_Seal_6 : List (Ex × Sk) := [((.exit 0), ⟨[(0, .v false [(.sl 5 [.int .u8], .ro)]), (1, .v false [(.int .i64, .nil)]), (14, .box 14 0), (17, .box 17 0)], [(14, [(.int .i64, .nil), (.int .i64, .nil), (.sl 5 [.int .u8], (.own 7000000)), (.sl 5 [.int .u8], (.own 7000001)), (.int .i64, .nil), (.sl 5 [.int .u8], (.own 7000002)), (.sl 5 [.int .u8], (.own 7000003)), (.int .i64, .nil), (.int .i64, .nil), (.sl 5 [.int .u8], (.own 7000004)), (.sl 5 [.int .u8], (.own 7000005))]), (17, [(.int .i64, .nil), (.int .i64, .nil), (.sl 5 [.int .u8], (.own 7000006)), (.sl 5 [.int .u8], (.own 7000007)), (.int .i64, .nil), (.sl 5 [.int .u8], (.own 7000008)), (.sl 5 [.int .u8], (.own 7000009)), (.int .i64, .nil), (.int .i64, .nil), (.sl 5 [.int .u8], (.own 7000010)), (.sl 5 [.int .u8], (.own 7000011))])], [7000000, 7000001, 7000002, 7000003, 7000004, 7000005, 7000006, 7000007, 7000008, 7000009, 7000010, 7000011]⟩)]
def Q_s_Seal : Loops := fun i st => cond (Nat.beq i 6) (lam K_s_Seal_6 7000000 X_s_Seal_6 B_s_Seal_6 st) <| .fail
theorem lp_s_Seal_6 : ∀ d, bod ⟨lookT tys, ctrOf C_s_Seal, kindOf C_s_Seal, 3, 4⟩ 0 Tryz.f269.ntmps Q_s_Seal (nthLoop Tryz.f269 0) K_s_Seal_6 7000000 X_s_Seal_6 d = B_s_Seal_6 d := fun d => by kernel_rfl
theorem lo_s_Seal_6 (cx : Cx) (hp : cx.pin.length ≤ 0) : LoopOk Tryz.prog cx Tryz.f269.ntmps Q_s_Seal (nthLoop Tryz.f269 0) := loop_of (cfgOk_of mixed tys_ok (show FnsOk Tryz.prog C_s_Seal from ⟨fn_s_HeadOf, fn_s_Sealed, fn_s_l7Body, fn_s_Mix, fn_s_TagInput, fn_s_Tag, trivial⟩)) hp (all_of (by kernel_rfl : loopsOf (nthLoop Tryz.f269 0) = []) trivial) (by kernel_rfl) lp_s_Seal_6
theorem e_s_Seal : ∀ d, pcall ⟨lookT tys, ctrOf C_s_Seal, kindOf C_s_Seal, 3, 4⟩ 0 Q_s_Seal Tryz.f269 .plain (mkA P_s_Seal d) = (T_s_Seal d.1 d.2.1 d.2.2.1 d.2.2.2.1 d.2.2.2.2.1 d.2.2.2.2.2.1 d.2.2.2.2.2.2.1).run fun r => some (O_s_Seal r) := fun d => by kernel_rfl
theorem fn_s_Seal : Fn Tryz.prog 269 .plain F_s_Seal := fn_of (cfgOk_of mixed tys_ok (show FnsOk Tryz.prog C_s_Seal from ⟨fn_s_HeadOf, fn_s_Sealed, fn_s_l7Body, fn_s_Mix, fn_s_TagInput, fn_s_Tag, trivial⟩)) Tryz.func269 (by kernel_rfl) (by kernel_rfl) (fun cx b hp hb => all_of (by kernel_rfl : loopsOf (Tryz.f269.body.getD .skip) = [nthLoop Tryz.f269 0]) ⟨lo_s_Seal_6 cx hp, trivial⟩ b hb) (R := (YFrame) × (Bool × Unit)) (T := fun (d : aden P_s_Seal) => T_s_Seal d.1 d.2.1 d.2.2.1 d.2.2.2.1 d.2.2.2.2.1 d.2.2.2.2.2.1 d.2.2.2.2.2.2.1) e_s_Seal
def P_s_EpSeal : List (Bool × List Sh) := [(true, h_5), (false, [.int .i64]), (false, [.sl 5 [.int .u8]]), (false, [.int .i64]), (false, [.sl 5 [.int .u8]])]
def O_s_EpSeal (r : (YEp) × (YFrame) × (YI)) : List RV × List RV := ([rv (true, h_5) r.1, rv (true, h_9) r.2.1, rv (false, [.int .i64]) r.2.2], [])
def C_s_EpSeal : Fns := [(265, .plain, F_s_l9Copy), (268, .plain, F_s_EpOk), (247, .plain, F_s_HeadOf), (163, .plain, F_s_Sealed), (238, .plain, F_s_l7Body), (269, .plain, F_s_Seal)]
def F_s_EpSeal : Fun1 := funV P_s_EpSeal (fun d => (T_s_EpSeal d.1 d.2.1 d.2.2.1 d.2.2.2.1 d.2.2.2.2.1).val) O_s_EpSeal
def Q_s_EpSeal : Loops := fun _ _ => .fail
theorem e_s_EpSeal : ∀ d, pcall ⟨lookT tys, ctrOf C_s_EpSeal, kindOf C_s_EpSeal, 3, 4⟩ 0 Q_s_EpSeal Tryz.f202 .plain (mkA P_s_EpSeal d) = (T_s_EpSeal d.1 d.2.1 d.2.2.1 d.2.2.2.1 d.2.2.2.2.1).run fun r => some (O_s_EpSeal r) := fun d => by kernel_rfl
theorem fn_s_EpSeal : Fn Tryz.prog 202 .plain F_s_EpSeal := fn_of (cfgOk_of mixed tys_ok (show FnsOk Tryz.prog C_s_EpSeal from ⟨fn_s_l9Copy, fn_s_EpOk, fn_s_HeadOf, fn_s_Sealed, fn_s_l7Body, fn_s_Seal, trivial⟩)) Tryz.func202 (by kernel_rfl) (by kernel_rfl) (fun cx b hp hb => all_of (by kernel_rfl : loopsOf (Tryz.f202.body.getD .skip) = []) trivial b hb) (R := (YEp) × (YFrame) × (YI)) (T := fun (d : aden P_s_EpSeal) => T_s_EpSeal d.1 d.2.1 d.2.2.1 d.2.2.2.1 d.2.2.2.2.1) e_s_EpSeal
def P_s_ChanSeal : List (Bool × List Sh) := [(true, h_11), (false, [.int .i64]), (false, [.sl 5 [.int .u8]])]
def O_s_ChanSeal (r : (YChan) × (YFrame) × (YI)) : List RV × List RV := ([rv (true, h_11) r.1, rv (true, h_9) r.2.1, rv (false, [.int .i64]) r.2.2], [])
def C_s_ChanSeal : Fns := [(196, .plain, F_s_l14Copy), (201, .plain, F_s_ChanOk), (202, .plain, F_s_EpSeal)]
def F_s_ChanSeal : Fun1 := funV P_s_ChanSeal (fun d => (T_s_ChanSeal d.1 d.2.1 d.2.2.1).val) O_s_ChanSeal
def Q_s_ChanSeal : Loops := fun _ _ => .fail
theorem e_s_ChanSeal : ∀ d, pcall ⟨lookT tys, ctrOf C_s_ChanSeal, kindOf C_s_ChanSeal, 3, 4⟩ 0 Q_s_ChanSeal Tryz.f102 .plain (mkA P_s_ChanSeal d) = (T_s_ChanSeal d.1 d.2.1 d.2.2.1).run fun r => some (O_s_ChanSeal r) := fun d => by kernel_rfl
theorem fn_s_ChanSeal : Fn Tryz.prog 102 .plain F_s_ChanSeal := fn_of (cfgOk_of mixed tys_ok (show FnsOk Tryz.prog C_s_ChanSeal from ⟨fn_s_l14Copy, fn_s_ChanOk, fn_s_EpSeal, trivial⟩)) Tryz.func102 (by kernel_rfl) (by kernel_rfl) (fun cx b hp hb => all_of (by kernel_rfl : loopsOf (Tryz.f102.body.getD .skip) = []) trivial b hb) (R := (YChan) × (YFrame) × (YI)) (T := fun (d : aden P_s_ChanSeal) => T_s_ChanSeal d.1 d.2.1 d.2.2.1) e_s_ChanSeal
def P_s_Made : List (Bool × List Sh) := [(false, [.sl 5 [.int .u8]]), (false, [.sl 5 [.int .u8]])]
def O_s_Made (r : (YNote)) : List RV × List RV := ([rv (true, h_8) r], [])
def C_s_Made : Fns := []
def F_s_Made : Fun1 := funV P_s_Made (fun d => (T_s_Made d.1 d.2.1).val) O_s_Made
def Q_s_Made : Loops := fun _ _ => .fail
theorem e_s_Made : ∀ d, pcall ⟨lookT tys, ctrOf C_s_Made, kindOf C_s_Made, 3, 4⟩ 0 Q_s_Made Tryz.f160 .plain (mkA P_s_Made d) = (T_s_Made d.1 d.2.1).run fun r => some (O_s_Made r) := fun d => by kernel_rfl
theorem fn_s_Made : Fn Tryz.prog 160 .plain F_s_Made := fn_of (cfgOk_of mixed tys_ok (show FnsOk Tryz.prog C_s_Made from trivial)) Tryz.func160 (by kernel_rfl) (by kernel_rfl) (fun cx b hp hb => all_of (by kernel_rfl : loopsOf (Tryz.f160.body.getD .skip) = []) trivial b hb) (R := (YNote)) (T := fun (d : aden P_s_Made) => T_s_Made d.1 d.2.1) e_s_Made
def P_s_l19Made : List (Bool × List Sh) := [(true, h_11), (true, h_9)]
def O_s_l19Made (r : (YNote)) : List RV × List RV := ([rv (true, h_8) r], [])
def C_s_l19Made : Fns := [(167, .plain, F_s_TagInput), (160, .plain, F_s_Made)]
def F_s_l19Made : Fun1 := funV P_s_l19Made (fun d => (T_s_l19Made d.1 d.2.1).val) O_s_l19Made
def Q_s_l19Made : Loops := fun _ _ => .fail
theorem e_s_l19Made : ∀ d, pcall ⟨lookT tys, ctrOf C_s_l19Made, kindOf C_s_l19Made, 3, 4⟩ 0 Q_s_l19Made Tryz.f103 .plain (mkA P_s_l19Made d) = (T_s_l19Made d.1 d.2.1).run fun r => some (O_s_l19Made r) := fun d => by kernel_rfl
theorem fn_s_l19Made : Fn Tryz.prog 103 .plain F_s_l19Made := fn_of (cfgOk_of mixed tys_ok (show FnsOk Tryz.prog C_s_l19Made from ⟨fn_s_TagInput, fn_s_Made, trivial⟩)) Tryz.func103 (by kernel_rfl) (by kernel_rfl) (fun cx b hp hb => all_of (by kernel_rfl : loopsOf (Tryz.f103.body.getD .skip) = []) trivial b hb) (R := (YNote)) (T := fun (d : aden P_s_l19Made) => T_s_l19Made d.1 d.2.1) e_s_l19Made
def P_s_SessSend : List (Bool × List Sh) := [(true, h_13), (false, [.sl 5 [.int .u8]])]
def O_s_SessSend (r : (YSess) × ((List YOut) × Unit) × ((List YNote) × Unit) × (YI)) : List RV × List RV := ([rv (true, h_13) r.1, rv (false, [.sl 175 h_10]) r.2.1, rv (false, [.sl 139 h_8]) r.2.2.1, rv (false, [.int .i64]) r.2.2.2], [])
def C_s_SessSend : Fns := [(120, .plain, F_s_l20Copy), (121, .plain, F_s_SessOk), (102, .plain, F_s_ChanSeal), (103, .plain, F_s_l19Made)]
def F_s_SessSend : Fun1 := funV P_s_SessSend (fun d => (T_s_SessSend d.1 d.2.1).val) O_s_SessSend
def Q_s_SessSend : Loops := fun _ _ => .fail
theorem e_s_SessSend : ∀ d, pcall ⟨lookT tys, ctrOf C_s_SessSend, kindOf C_s_SessSend, 3, 4⟩ 0 Q_s_SessSend Tryz.f36 .plain (mkA P_s_SessSend d) = (T_s_SessSend d.1 d.2.1).run fun r => some (O_s_SessSend r) := fun d => by kernel_rfl
theorem fn_s_SessSend : Fn Tryz.prog 36 .plain F_s_SessSend := fn_of (cfgOk_of mixed tys_ok (show FnsOk Tryz.prog C_s_SessSend from ⟨fn_s_l20Copy, fn_s_SessOk, fn_s_ChanSeal, fn_s_l19Made, trivial⟩)) Tryz.func36 (by kernel_rfl) (by kernel_rfl) (fun cx b hp hb => all_of (by kernel_rfl : loopsOf (Tryz.f36.body.getD .skip) = []) trivial b hb) (R := (YSess) × ((List YOut) × Unit) × ((List YNote) × Unit) × (YI)) (T := fun (d : aden P_s_SessSend) => T_s_SessSend d.1 d.2.1) e_s_SessSend
def P_i_clone : List (Bool × List Sh) := [(false, [.sl 5 [.int .u8]])]
def O_i_clone (r : (YBs)) : List RV × List RV := ([rv (false, [.sl 5 [.int .u8]]) r], [])
def C_i_clone : Fns := []
def F_i_clone : Fun1 := funV P_i_clone (fun d => (T_i_clone d.1).val) O_i_clone
def Q_i_clone : Loops := fun _ _ => .fail
theorem e_i_clone : ∀ d, pcall ⟨lookT tys, ctrOf C_i_clone, kindOf C_i_clone, 3, 4⟩ 0 Q_i_clone Tryz.f111 .plain (mkA P_i_clone d) = (T_i_clone d.1).run fun r => some (O_i_clone r) := fun d => by kernel_rfl
theorem fn_i_clone : Fn Tryz.prog 111 .plain F_i_clone := fn_of (cfgOk_of mixed tys_ok (show FnsOk Tryz.prog C_i_clone from trivial)) Tryz.func111 (by kernel_rfl) (by kernel_rfl) (fun cx b hp hb => all_of (by kernel_rfl : loopsOf (Tryz.f111.body.getD .skip) = []) trivial b hb) (R := (YBs)) (T := fun (d : aden P_i_clone) => T_i_clone d.1) e_i_clone
def P_i_copyWin : List (Bool × List Sh) := [(true, [.int .i64, .sl 3 [.int .i64]])]
def O_i_copyWin (r : (YWin)) : List RV × List RV := ([rv (true, [.int .i64, .sl 3 [.int .i64]]) r], [])
def C_i_copyWin : Fns := []
def F_i_copyWin : Fun1 := funV P_i_copyWin (fun d => (T_i_copyWin d.1).val) O_i_copyWin
def Q_i_copyWin : Loops := fun _ _ => .fail
theorem e_i_copyWin : ∀ d, pcall ⟨lookT tys, ctrOf C_i_copyWin, kindOf C_i_copyWin, 3, 4⟩ 0 Q_i_copyWin Tryz.f309 .plain (mkA P_i_copyWin d) = (T_i_copyWin d.1).run fun r => some (O_i_copyWin r) := fun d => by kernel_rfl
theorem fn_i_copyWin : Fn Tryz.prog 309 .plain F_i_copyWin := fn_of (cfgOk_of mixed tys_ok (show FnsOk Tryz.prog C_i_copyWin from trivial)) Tryz.func309 (by kernel_rfl) (by kernel_rfl) (fun cx b hp hb => all_of (by kernel_rfl : loopsOf (Tryz.f309.body.getD .skip) = []) trivial b hb) (R := (YWin)) (T := fun (d : aden P_i_copyWin) => T_i_copyWin d.1) e_i_copyWin
def P_i_copyEp : List (Bool × List Sh) := [(true, h_5)]
def O_i_copyEp (r : (YEp)) : List RV × List RV := ([rv (true, h_5) r], [])
def C_i_copyEp : Fns := [(111, .plain, F_i_clone), (309, .plain, F_i_copyWin)]
def F_i_copyEp : Fun1 := funV P_i_copyEp (fun d => (T_i_copyEp d.1).val) O_i_copyEp
def Q_i_copyEp : Loops := fun _ _ => .fail
theorem e_i_copyEp : ∀ d, pcall ⟨lookT tys, ctrOf C_i_copyEp, kindOf C_i_copyEp, 3, 4⟩ 0 Q_i_copyEp Tryz.f271 .plain (mkA P_i_copyEp d) = (T_i_copyEp d.1).run fun r => some (O_i_copyEp r) := fun d => by kernel_rfl
theorem fn_i_copyEp : Fn Tryz.prog 271 .plain F_i_copyEp := fn_of (cfgOk_of mixed tys_ok (show FnsOk Tryz.prog C_i_copyEp from ⟨fn_i_clone, fn_i_copyWin, trivial⟩)) Tryz.func271 (by kernel_rfl) (by kernel_rfl) (fun cx b hp hb => all_of (by kernel_rfl : loopsOf (Tryz.f271.body.getD .skip) = []) trivial b hb) (R := (YEp)) (T := fun (d : aden P_i_copyEp) => T_i_copyEp d.1) e_i_copyEp
def P_i_copyChan : List (Bool × List Sh) := [(true, h_11)]
def O_i_copyChan (r : (YChan)) : List RV × List RV := ([rv (true, h_11) r], [])
def C_i_copyChan : Fns := [(111, .plain, F_i_clone), (271, .plain, F_i_copyEp)]
def F_i_copyChan : Fun1 := funV P_i_copyChan (fun d => (T_i_copyChan d.1).val) O_i_copyChan
def Q_i_copyChan : Loops := fun _ _ => .fail
theorem e_i_copyChan : ∀ d, pcall ⟨lookT tys, ctrOf C_i_copyChan, kindOf C_i_copyChan, 3, 4⟩ 0 Q_i_copyChan Tryz.f204 .plain (mkA P_i_copyChan d) = (T_i_copyChan d.1).run fun r => some (O_i_copyChan r) := fun d => by kernel_rfl
theorem fn_i_copyChan : Fn Tryz.prog 204 .plain F_i_copyChan := fn_of (cfgOk_of mixed tys_ok (show FnsOk Tryz.prog C_i_copyChan from ⟨fn_i_clone, fn_i_copyEp, trivial⟩)) Tryz.func204 (by kernel_rfl) (by kernel_rfl) (fun cx b hp hb => all_of (by kernel_rfl : loopsOf (Tryz.f204.body.getD .skip) = []) trivial b hb) (R := (YChan)) (T := fun (d : aden P_i_copyChan) => T_i_copyChan d.1) e_i_copyChan
def P_i_copyPaths : List (Bool × List Sh) := [(true, h_7)]
def O_i_copyPaths (r : (YPaths)) : List RV × List RV := ([rv (true, h_7) r], [])
def C_i_copyPaths : Fns := [(111, .plain, F_i_clone)]
def F_i_copyPaths : Fun1 := funV P_i_copyPaths (fun d => (T_i_copyPaths d.1).val) O_i_copyPaths
def K_i_copyPaths_3 : Sk := ⟨[(2, .box 2 0), (3, .box 3 0), (10, .v false [(.sl 274 h_4, .ro)]), (11, .v false [(.int .i64, .nil)]), (12, .v false [(.int .i64, .nil)])], [(2, [(.int .i64, .nil), (.int .i64, .nil), (.sl 274 h_4, (.own 4000000))]), (3, [(.int .i64, .nil), (.int .i64, .nil), (.sl 274 h_4, (.own 4000001))])], [4000000, 4000001]⟩
def X_i_copyPaths_3 : List (Ex × Sk) := [((.exit 0), ⟨[(2, .box 2 0), (3, .box 3 0)], [(2, [(.int .i64, .nil), (.int .i64, .nil), (.sl 274 h_4, (.own 4000000))]), (3, [(.int .i64, .nil), (.int .i64, .nil), (.sl 274 h_4, (.own 4000001))])], [4000000, 4000001]⟩)]
def Q_i_copyPaths : Loops := fun i st => cond (Nat.beq i 3) (lam K_i_copyPaths_3 4000000 X_i_copyPaths_3 B_i_copyPaths_3 st) <| .fail
theorem lp_i_copyPaths_3 : ∀ d, bod ⟨lookT tys, ctrOf C_i_copyPaths, kindOf C_i_copyPaths, 3, 4⟩ 0 Tryz.f223.ntmps Q_i_copyPaths (nthLoop Tryz.f223 0) K_i_copyPaths_3 4000000 X_i_copyPaths_3 d = B_i_copyPaths_3 d := fun d => by kernel_rfl
theorem lo_i_copyPaths_3 (cx : Cx) (hp : cx.pin.length ≤ 0) : LoopOk Tryz.prog cx Tryz.f223.ntmps Q_i_copyPaths (nthLoop Tryz.f223 0) := loop_of (cfgOk_of mixed tys_ok (show FnsOk Tryz.prog C_i_copyPaths from ⟨fn_i_clone, trivial⟩)) hp (all_of (by kernel_rfl : loopsOf (nthLoop Tryz.f223 0) = []) trivial) (by kernel_rfl) lp_i_copyPaths_3
theorem e_i_copyPaths : ∀ d, pcall ⟨lookT tys, ctrOf C_i_copyPaths, kindOf C_i_copyPaths, 3, 4⟩ 0 Q_i_copyPaths Tryz.f223 .plain (mkA P_i_copyPaths d) = (T_i_copyPaths d.1).run fun r => some (O_i_copyPaths r) := fun d => by kernel_rfl
theorem fn_i_copyPaths : Fn Tryz.prog 223 .plain F_i_copyPaths := fn_of (cfgOk_of mixed tys_ok (show FnsOk Tryz.prog C_i_copyPaths from ⟨fn_i_clone, trivial⟩)) Tryz.func223 (by kernel_rfl) (by kernel_rfl) (fun cx b hp hb => all_of (by kernel_rfl : loopsOf (Tryz.f223.body.getD .skip) = [nthLoop Tryz.f223 0]) ⟨lo_i_copyPaths_3 cx hp, trivial⟩ b hb) (R := (YPaths)) (T := fun (d : aden P_i_copyPaths) => T_i_copyPaths d.1) e_i_copyPaths
def P_i_copySess : List (Bool × List Sh) := [(true, h_13)]
def O_i_copySess (r : (YSess)) : List RV × List RV := ([rv (true, h_13) r], [])
def C_i_copySess : Fns := [(111, .plain, F_i_clone), (204, .plain, F_i_copyChan), (223, .plain, F_i_copyPaths)]
def F_i_copySess : Fun1 := funV P_i_copySess (fun d => (T_i_copySess d.1).val) O_i_copySess
def Q_i_copySess : Loops := fun _ _ => .fail
theorem e_i_copySess : ∀ d, pcall ⟨lookT tys, ctrOf C_i_copySess, kindOf C_i_copySess, 3, 4⟩ 0 Q_i_copySess Tryz.f123 .plain (mkA P_i_copySess d) = (T_i_copySess d.1).run fun r => some (O_i_copySess r) := fun d => by kernel_rfl
theorem fn_i_copySess : Fn Tryz.prog 123 .plain F_i_copySess := fn_of (cfgOk_of mixed tys_ok (show FnsOk Tryz.prog C_i_copySess from ⟨fn_i_clone, fn_i_copyChan, fn_i_copyPaths, trivial⟩)) Tryz.func123 (by kernel_rfl) (by kernel_rfl) (fun cx b hp hb => all_of (by kernel_rfl : loopsOf (Tryz.f123.body.getD .skip) = []) trivial b hb) (R := (YSess)) (T := fun (d : aden P_i_copySess) => T_i_copySess d.1) e_i_copySess
def P_i_within : List (Bool × List Sh) := [(false, [.int .i64]), (false, [.int .i64]), (false, [.int .i64])]
def O_i_within (r : (Bool × Unit)) : List RV × List RV := ([rv (false, [.bool]) r], [])
def C_i_within : Fns := []
def F_i_within : Fun1 := funV P_i_within (fun d => (T_i_within d.1 d.2.1 d.2.2.1).val) O_i_within
def Q_i_within : Loops := fun _ _ => .fail
theorem e_i_within : ∀ d, pcall ⟨lookT tys, ctrOf C_i_within, kindOf C_i_within, 3, 4⟩ 0 Q_i_within Tryz.f109 .plain (mkA P_i_within d) = (T_i_within d.1 d.2.1 d.2.2.1).run fun r => some (O_i_within r) := fun d => by kernel_rfl
theorem fn_i_within : Fn Tryz.prog 109 .plain F_i_within := fn_of (cfgOk_of mixed tys_ok (show FnsOk Tryz.prog C_i_within from trivial)) Tryz.func109 (by kernel_rfl) (by kernel_rfl) (fun cx b hp hb => all_of (by kernel_rfl : loopsOf (Tryz.f109.body.getD .skip) = []) trivial b hb) (R := (Bool × Unit)) (T := fun (d : aden P_i_within) => T_i_within d.1 d.2.1 d.2.2.1) e_i_within
def P_i_isNonce : List (Bool × List Sh) := [(false, [.sl 5 [.int .u8]])]
def O_i_isNonce (r : (Bool × Unit)) : List RV × List RV := ([rv (false, [.bool]) r], [])
def C_i_isNonce : Fns := []
def F_i_isNonce : Fun1 := funV P_i_isNonce (fun d => (T_i_isNonce d.1).val) O_i_isNonce
def Q_i_isNonce : Loops := fun _ _ => .fail
theorem e_i_isNonce : ∀ d, pcall ⟨lookT tys, ctrOf C_i_isNonce, kindOf C_i_isNonce, 3, 4⟩ 0 Q_i_isNonce Tryz.f208 .plain (mkA P_i_isNonce d) = (T_i_isNonce d.1).run fun r => some (O_i_isNonce r) := fun d => by kernel_rfl
theorem fn_i_isNonce : Fn Tryz.prog 208 .plain F_i_isNonce := fn_of (cfgOk_of mixed tys_ok (show FnsOk Tryz.prog C_i_isNonce from trivial)) Tryz.func208 (by kernel_rfl) (by kernel_rfl) (fun cx b hp hb => all_of (by kernel_rfl : loopsOf (Tryz.f208.body.getD .skip) = []) trivial b hb) (R := (Bool × Unit)) (T := fun (d : aden P_i_isNonce) => T_i_isNonce d.1) e_i_isNonce
def P_bytes_Equal : List (Bool × List Sh) := [(false, [.sl 5 [.int .u8]]), (false, [.sl 5 [.int .u8]])]
def O_bytes_Equal (r : (Bool × Unit)) : List RV × List RV := ([rv (false, [.bool]) r], [])
def C_bytes_Equal : Fns := []
def F_bytes_Equal : Fun1 := funV P_bytes_Equal (fun d => (T_bytes_Equal d.1 d.2.1).val) O_bytes_Equal
def Q_bytes_Equal : Loops := fun _ _ => .fail
theorem e_bytes_Equal : ∀ d, pcall ⟨lookT tys, ctrOf C_bytes_Equal, kindOf C_bytes_Equal, 3, 4⟩ 0 Q_bytes_Equal Tryz.f169 .plain (mkA P_bytes_Equal d) = (T_bytes_Equal d.1 d.2.1).run fun r => some (O_bytes_Equal r) := fun d => by kernel_rfl
theorem fn_bytes_Equal : Fn Tryz.prog 169 .plain F_bytes_Equal := fn_of (cfgOk_of mixed tys_ok (show FnsOk Tryz.prog C_bytes_Equal from trivial)) Tryz.func169 (by kernel_rfl) (by kernel_rfl) (fun cx b hp hb => all_of (by kernel_rfl : loopsOf (Tryz.f169.body.getD .skip) = []) trivial b hb) (R := (Bool × Unit)) (T := fun (d : aden P_bytes_Equal) => T_bytes_Equal d.1 d.2.1) e_bytes_Equal
def P_i_sameInts : List (Bool × List Sh) := [(false, [.sl 3 [.int .i64]]), (false, [.sl 3 [.int .i64]])]
def O_i_sameInts (r : (Bool × Unit)) : List RV × List RV := ([rv (false, [.bool]) r], [])
def C_i_sameInts : Fns := []
def F_i_sameInts : Fun1 := funV P_i_sameInts (fun d => (T_i_sameInts d.1 d.2.1).val) O_i_sameInts
def K_i_sameInts_4 : Sk := ⟨[(1, .v false [(.sl 3 [.int .i64], .ro)]), (12, .v false [(.sl 3 [.int .i64], .ro)]), (13, .v false [(.int .i64, .nil)]), (14, .v false [(.int .i64, .nil)])], [], []⟩
def X_i_sameInts_4 : List (Ex × Sk) := [(.ret, ⟨[(4, .v false [(.bool, .nil)])], [], []⟩), ((.exit 0), ⟨[], [], []⟩)]
def Q_i_sameInts : Loops := fun i st => cond (Nat.beq i 4) (lam K_i_sameInts_4 5000000 X_i_sameInts_4 B_i_sameInts_4 st) <| .fail
theorem lp_i_sameInts_4 : ∀ d, bod ⟨lookT tys, ctrOf C_i_sameInts, kindOf C_i_sameInts, 3, 4⟩ 0 Tryz.f310.ntmps Q_i_sameInts (nthLoop Tryz.f310 0) K_i_sameInts_4 5000000 X_i_sameInts_4 d = B_i_sameInts_4 d := fun d => by kernel_rfl
theorem lo_i_sameInts_4 (cx : Cx) (hp : cx.pin.length ≤ 0) : LoopOk Tryz.prog cx Tryz.f310.ntmps Q_i_sameInts (nthLoop Tryz.f310 0) := loop_of (cfgOk_of mixed tys_ok (show FnsOk Tryz.prog C_i_sameInts from trivial)) hp (all_of (by kernel_rfl : loopsOf (nthLoop Tryz.f310 0) = []) trivial) (by kernel_rfl) lp_i_sameInts_4
theorem e_i_sameInts : ∀ d, pcall ⟨lookT tys, ctrOf C_i_sameInts, kindOf C_i_sameInts, 3, 4⟩ 0 Q_i_sameInts Tryz.f310 .plain (mkA P_i_sameInts d) = (T_i_sameInts d.1 d.2.1).run fun r => some (O_i_sameInts r) := fun d => by kernel_rfl
theorem fn_i_sameInts : Fn Tryz.prog 310 .plain F_i_sameInts := fn_of (cfgOk_of mixed tys_ok (show FnsOk Tryz.prog C_i_sameInts from trivial)) Tryz.func310 (by kernel_rfl) (by kernel_rfl) (fun cx b hp hb => all_of (by kernel_rfl : loopsOf (Tryz.f310.body.getD .skip) = [nthLoop Tryz.f310 0]) ⟨lo_i_sameInts_4 cx hp, trivial⟩ b hb) (R := (Bool × Unit)) (T := fun (d : aden P_i_sameInts) => T_i_sameInts d.1 d.2.1) e_i_sameInts
def P_i_sameEp : List (Bool × List Sh) := [(true, h_5), (true, h_5)]
def O_i_sameEp (r : (Bool × Unit)) : List RV × List RV := ([rv (false, [.bool]) r], [])
def C_i_sameEp : Fns := [(169, .plain, F_bytes_Equal), (310, .plain, F_i_sameInts)]
def F_i_sameEp : Fun1 := funV P_i_sameEp (fun d => (T_i_sameEp d.1 d.2.1).val) O_i_sameEp
def Q_i_sameEp : Loops := fun _ _ => .fail
theorem e_i_sameEp : ∀ d, pcall ⟨lookT tys, ctrOf C_i_sameEp, kindOf C_i_sameEp, 3, 4⟩ 0 Q_i_sameEp Tryz.f272 .plain (mkA P_i_sameEp d) = (T_i_sameEp d.1 d.2.1).run fun r => some (O_i_sameEp r) := fun d => by kernel_rfl
theorem fn_i_sameEp : Fn Tryz.prog 272 .plain F_i_sameEp := fn_of (cfgOk_of mixed tys_ok (show FnsOk Tryz.prog C_i_sameEp from ⟨fn_bytes_Equal, fn_i_sameInts, trivial⟩)) Tryz.func272 (by kernel_rfl) (by kernel_rfl) (fun cx b hp hb => all_of (by kernel_rfl : loopsOf (Tryz.f272.body.getD .skip) = []) trivial b hb) (R := (Bool × Unit)) (T := fun (d : aden P_i_sameEp) => T_i_sameEp d.1 d.2.1) e_i_sameEp
def P_i_isZeroChan : List (Bool × List Sh) := [(true, h_11)]
def O_i_isZeroChan (r : (Bool × Unit)) : List RV × List RV := ([rv (false, [.bool]) r], [])
def C_i_isZeroChan : Fns := [(272, .plain, F_i_sameEp)]
def F_i_isZeroChan : Fun1 := funV P_i_isZeroChan (fun d => (T_i_isZeroChan d.1).val) O_i_isZeroChan
def Q_i_isZeroChan : Loops := fun _ _ => .fail
theorem e_i_isZeroChan : ∀ d, pcall ⟨lookT tys, ctrOf C_i_isZeroChan, kindOf C_i_isZeroChan, 3, 4⟩ 0 Q_i_isZeroChan Tryz.f207 .plain (mkA P_i_isZeroChan d) = (T_i_isZeroChan d.1).run fun r => some (O_i_isZeroChan r) := fun d => by kernel_rfl
theorem fn_i_isZeroChan : Fn Tryz.prog 207 .plain F_i_isZeroChan := fn_of (cfgOk_of mixed tys_ok (show FnsOk Tryz.prog C_i_isZeroChan from ⟨fn_i_sameEp, trivial⟩)) Tryz.func207 (by kernel_rfl) (by kernel_rfl) (fun cx b hp hb => all_of (by kernel_rfl : loopsOf (Tryz.f207.body.getD .skip) = []) trivial b hb) (R := (Bool × Unit)) (T := fun (d : aden P_i_isZeroChan) => T_i_isZeroChan d.1) e_i_isZeroChan
def P_i_isRole : List (Bool × List Sh) := [(false, [.int .i64])]
def O_i_isRole (r : (Bool × Unit)) : List RV × List RV := ([rv (false, [.bool]) r], [])
def C_i_isRole : Fns := []
def F_i_isRole : Fun1 := funV P_i_isRole (fun d => (T_i_isRole d.1).val) O_i_isRole
def Q_i_isRole : Loops := fun _ _ => .fail
theorem e_i_isRole : ∀ d, pcall ⟨lookT tys, ctrOf C_i_isRole, kindOf C_i_isRole, 3, 4⟩ 0 Q_i_isRole Tryz.f273 .plain (mkA P_i_isRole d) = (T_i_isRole d.1).run fun r => some (O_i_isRole r) := fun d => by kernel_rfl
theorem fn_i_isRole : Fn Tryz.prog 273 .plain F_i_isRole := fn_of (cfgOk_of mixed tys_ok (show FnsOk Tryz.prog C_i_isRole from trivial)) Tryz.func273 (by kernel_rfl) (by kernel_rfl) (fun cx b hp hb => all_of (by kernel_rfl : loopsOf (Tryz.f273.body.getD .skip) = []) trivial b hb) (R := (Bool × Unit)) (T := fun (d : aden P_i_isRole) => T_i_isRole d.1) e_i_isRole
def P_i_areWords : List (Bool × List Sh) := [(false, [.sl 3 [.int .i64]]), (false, [.int .i64])]
def O_i_areWords (r : (Bool × Unit)) : List RV × List RV := ([rv (false, [.bool]) r], [])
def C_i_areWords : Fns := [(109, .plain, F_i_within)]
def F_i_areWords : Fun1 := funV P_i_areWords (fun d => (T_i_areWords d.1 d.2.1).val) O_i_areWords
def K_i_areWords_2 : Sk := ⟨[(0, .v false [(.sl 3 [.int .i64], .ro)]), (1, .v false [(.int .i64, .nil)]), (7, .v false [(.sl 3 [.int .i64], .ro)]), (8, .v false [(.int .i64, .nil)]), (9, .v false [(.int .i64, .nil)])], [], []⟩
def X_i_areWords_2 : List (Ex × Sk) := [(.ret, ⟨[(4, .v false [(.bool, .nil)])], [], []⟩), ((.exit 0), ⟨[(0, .v false [(.sl 3 [.int .i64], .ro)]), (1, .v false [(.int .i64, .nil)])], [], []⟩)]
def Q_i_areWords : Loops := fun i st => cond (Nat.beq i 2) (lam K_i_areWords_2 3000000 X_i_areWords_2 B_i_areWords_2 st) <| .fail
theorem lp_i_areWords_2 : ∀ d, bod ⟨lookT tys, ctrOf C_i_areWords, kindOf C_i_areWords, 3, 4⟩ 0 Tryz.f327.ntmps Q_i_areWords (nthLoop Tryz.f327 0) K_i_areWords_2 3000000 X_i_areWords_2 d = B_i_areWords_2 d := fun d => by kernel_rfl
theorem lo_i_areWords_2 (cx : Cx) (hp : cx.pin.length ≤ 0) : LoopOk Tryz.prog cx Tryz.f327.ntmps Q_i_areWords (nthLoop Tryz.f327 0) := loop_of (cfgOk_of mixed tys_ok (show FnsOk Tryz.prog C_i_areWords from ⟨fn_i_within, trivial⟩)) hp (all_of (by kernel_rfl : loopsOf (nthLoop Tryz.f327 0) = []) trivial) (by kernel_rfl) lp_i_areWords_2
theorem e_i_areWords : ∀ d, pcall ⟨lookT tys, ctrOf C_i_areWords, kindOf C_i_areWords, 3, 4⟩ 0 Q_i_areWords Tryz.f327 .plain (mkA P_i_areWords d) = (T_i_areWords d.1 d.2.1).run fun r => some (O_i_areWords r) := fun d => by kernel_rfl
theorem fn_i_areWords : Fn Tryz.prog 327 .plain F_i_areWords := fn_of (cfgOk_of mixed tys_ok (show FnsOk Tryz.prog C_i_areWords from ⟨fn_i_within, trivial⟩)) Tryz.func327 (by kernel_rfl) (by kernel_rfl) (fun cx b hp hb => all_of (by kernel_rfl : loopsOf (Tryz.f327.body.getD .skip) = [nthLoop Tryz.f327 0]) ⟨lo_i_areWords_2 cx hp, trivial⟩ b hb) (R := (Bool × Unit)) (T := fun (d : aden P_i_areWords) => T_i_areWords d.1 d.2.1) e_i_areWords
def P_i_hasBit : List (Bool × List Sh) := [(true, [.int .i64, .sl 3 [.int .i64]]), (false, [.int .i64])]
def O_i_hasBit (r : (Bool × Unit)) : List RV × List RV := ([rv (false, [.bool]) r], [])
def C_i_hasBit : Fns := []
def F_i_hasBit : Fun1 := funV P_i_hasBit (fun d => (T_i_hasBit d.1 d.2.1).val) O_i_hasBit
def Q_i_hasBit : Loops := fun _ _ => .fail
theorem e_i_hasBit : ∀ d, pcall ⟨lookT tys, ctrOf C_i_hasBit, kindOf C_i_hasBit, 3, 4⟩ 0 Q_i_hasBit Tryz.f328 .plain (mkA P_i_hasBit d) = (T_i_hasBit d.1 d.2.1).run fun r => some (O_i_hasBit r) := fun d => by kernel_rfl
theorem fn_i_hasBit : Fn Tryz.prog 328 .plain F_i_hasBit := fn_of (cfgOk_of mixed tys_ok (show FnsOk Tryz.prog C_i_hasBit from trivial)) Tryz.func328 (by kernel_rfl) (by kernel_rfl) (fun cx b hp hb => all_of (by kernel_rfl : loopsOf (Tryz.f328.body.getD .skip) = []) trivial b hb) (R := (Bool × Unit)) (T := fun (d : aden P_i_hasBit) => T_i_hasBit d.1 d.2.1) e_i_hasBit
def P_i_WinOk : List (Bool × List Sh) := [(true, [.int .i64, .sl 3 [.int .i64]])]
def O_i_WinOk (r : (Bool × Unit)) : List RV × List RV := ([rv (false, [.bool]) r], [])
def C_i_WinOk : Fns := [(109, .plain, F_i_within), (327, .plain, F_i_areWords), (328, .plain, F_i_hasBit)]
def F_i_WinOk : Fun1 := funV P_i_WinOk (fun d => (T_i_WinOk d.1).val) O_i_WinOk
def K_i_WinOk_4 : Sk := ⟨[(1, .box 1 0), (3, .v false [(.int .i64, .nil)])], [(1, [(.int .i64, .nil), (.sl 3 [.int .i64], .ro)])], []⟩
def X_i_WinOk_4 : List (Ex × Sk) := [(.ret, ⟨[(2, .v false [(.bool, .nil)])], [], []⟩), ((.exit 0), ⟨[(1, .box 1 0)], [(1, [(.int .i64, .nil), (.sl 3 [.int .i64], .ro)])], []⟩)]
def Q_i_WinOk : Loops := fun i st => cond (Nat.beq i 4) (lam K_i_WinOk_4 5000000 X_i_WinOk_4 B_i_WinOk_4 st) <| .fail
theorem lp_i_WinOk_4 : ∀ d, bod ⟨lookT tys, ctrOf C_i_WinOk, kindOf C_i_WinOk, 3, 4⟩ 0 Tryz.f311.ntmps Q_i_WinOk (nthLoop Tryz.f311 0) K_i_WinOk_4 5000000 X_i_WinOk_4 d = B_i_WinOk_4 d := fun d => by kernel_rfl
theorem lo_i_WinOk_4 (cx : Cx) (hp : cx.pin.length ≤ 0) : LoopOk Tryz.prog cx Tryz.f311.ntmps Q_i_WinOk (nthLoop Tryz.f311 0) := loop_of (cfgOk_of mixed tys_ok (show FnsOk Tryz.prog C_i_WinOk from ⟨fn_i_within, fn_i_areWords, fn_i_hasBit, trivial⟩)) hp (all_of (by kernel_rfl : loopsOf (nthLoop Tryz.f311 0) = []) trivial) (by kernel_rfl) lp_i_WinOk_4
theorem e_i_WinOk : ∀ d, pcall ⟨lookT tys, ctrOf C_i_WinOk, kindOf C_i_WinOk, 3, 4⟩ 0 Q_i_WinOk Tryz.f311 .plain (mkA P_i_WinOk d) = (T_i_WinOk d.1).run fun r => some (O_i_WinOk r) := fun d => by kernel_rfl
theorem fn_i_WinOk : Fn Tryz.prog 311 .plain F_i_WinOk := fn_of (cfgOk_of mixed tys_ok (show FnsOk Tryz.prog C_i_WinOk from ⟨fn_i_within, fn_i_areWords, fn_i_hasBit, trivial⟩)) Tryz.func311 (by kernel_rfl) (by kernel_rfl) (fun cx b hp hb => all_of (by kernel_rfl : loopsOf (Tryz.f311.body.getD .skip) = [nthLoop Tryz.f311 0]) ⟨lo_i_WinOk_4 cx hp, trivial⟩ b hb) (R := (Bool × Unit)) (T := fun (d : aden P_i_WinOk) => T_i_WinOk d.1) e_i_WinOk
def P_i_EpOk : List (Bool × List Sh) := [(true, h_5)]
def O_i_EpOk (r : (Bool × Unit)) : List RV × List RV := ([rv (false, [.bool]) r], [])
def C_i_EpOk : Fns := [(109, .plain, F_i_within), (311, .plain, F_i_WinOk)]
def F_i_EpOk : Fun1 := funV P_i_EpOk (fun d => (T_i_EpOk d.1).val) O_i_EpOk
def Q_i_EpOk : Loops := fun _ _ => .fail
theorem e_i_EpOk : ∀ d, pcall ⟨lookT tys, ctrOf C_i_EpOk, kindOf C_i_EpOk, 3, 4⟩ 0 Q_i_EpOk Tryz.f274 .plain (mkA P_i_EpOk d) = (T_i_EpOk d.1).run fun r => some (O_i_EpOk r) := fun d => by kernel_rfl
theorem fn_i_EpOk : Fn Tryz.prog 274 .plain F_i_EpOk := fn_of (cfgOk_of mixed tys_ok (show FnsOk Tryz.prog C_i_EpOk from ⟨fn_i_within, fn_i_WinOk, trivial⟩)) Tryz.func274 (by kernel_rfl) (by kernel_rfl) (fun cx b hp hb => all_of (by kernel_rfl : loopsOf (Tryz.f274.body.getD .skip) = []) trivial b hb) (R := (Bool × Unit)) (T := fun (d : aden P_i_EpOk) => T_i_EpOk d.1) e_i_EpOk
def P_i_oldOk : List (Bool × List Sh) := [(true, h_11)]
def O_i_oldOk (r : (Bool × Unit)) : List RV × List RV := ([rv (false, [.bool]) r], [])
def C_i_oldOk : Fns := [(272, .plain, F_i_sameEp), (274, .plain, F_i_EpOk), (109, .plain, F_i_within)]
def F_i_oldOk : Fun1 := funV P_i_oldOk (fun d => (T_i_oldOk d.1).val) O_i_oldOk
def Q_i_oldOk : Loops := fun _ _ => .fail
theorem e_i_oldOk : ∀ d, pcall ⟨lookT tys, ctrOf C_i_oldOk, kindOf C_i_oldOk, 3, 4⟩ 0 Q_i_oldOk Tryz.f275 .plain (mkA P_i_oldOk d) = (T_i_oldOk d.1).run fun r => some (O_i_oldOk r) := fun d => by kernel_rfl
theorem fn_i_oldOk : Fn Tryz.prog 275 .plain F_i_oldOk := fn_of (cfgOk_of mixed tys_ok (show FnsOk Tryz.prog C_i_oldOk from ⟨fn_i_sameEp, fn_i_EpOk, fn_i_within, trivial⟩)) Tryz.func275 (by kernel_rfl) (by kernel_rfl) (fun cx b hp hb => all_of (by kernel_rfl : loopsOf (Tryz.f275.body.getD .skip) = []) trivial b hb) (R := (Bool × Unit)) (T := fun (d : aden P_i_oldOk) => T_i_oldOk d.1) e_i_oldOk
def P_i_ChanOk : List (Bool × List Sh) := [(true, h_11)]
def O_i_ChanOk (r : (Bool × Unit)) : List RV × List RV := ([rv (false, [.bool]) r], [])
def C_i_ChanOk : Fns := [(273, .plain, F_i_isRole), (208, .plain, F_i_isNonce), (274, .plain, F_i_EpOk), (275, .plain, F_i_oldOk)]
def F_i_ChanOk : Fun1 := funV P_i_ChanOk (fun d => (T_i_ChanOk d.1).val) O_i_ChanOk
def Q_i_ChanOk : Loops := fun _ _ => .fail
theorem e_i_ChanOk : ∀ d, pcall ⟨lookT tys, ctrOf C_i_ChanOk, kindOf C_i_ChanOk, 3, 4⟩ 0 Q_i_ChanOk Tryz.f211 .plain (mkA P_i_ChanOk d) = (T_i_ChanOk d.1).run fun r => some (O_i_ChanOk r) := fun d => by kernel_rfl
theorem fn_i_ChanOk : Fn Tryz.prog 211 .plain F_i_ChanOk := fn_of (cfgOk_of mixed tys_ok (show FnsOk Tryz.prog C_i_ChanOk from ⟨fn_i_isRole, fn_i_isNonce, fn_i_EpOk, fn_i_oldOk, trivial⟩)) Tryz.func211 (by kernel_rfl) (by kernel_rfl) (fun cx b hp hb => all_of (by kernel_rfl : loopsOf (Tryz.f211.body.getD .skip) = []) trivial b hb) (R := (Bool × Unit)) (T := fun (d : aden P_i_ChanOk) => T_i_ChanOk d.1) e_i_ChanOk
def P_i_AddrOk : List (Bool × List Sh) := [(true, [.int .i64, .int .i64])]
def O_i_AddrOk (r : (Bool × Unit)) : List RV × List RV := ([rv (false, [.bool]) r], [])
def C_i_AddrOk : Fns := [(109, .plain, F_i_within)]
def F_i_AddrOk : Fun1 := funV P_i_AddrOk (fun d => (T_i_AddrOk d.1).val) O_i_AddrOk
def Q_i_AddrOk : Loops := fun _ _ => .fail
theorem e_i_AddrOk : ∀ d, pcall ⟨lookT tys, ctrOf C_i_AddrOk, kindOf C_i_AddrOk, 3, 4⟩ 0 Q_i_AddrOk Tryz.f205 .plain (mkA P_i_AddrOk d) = (T_i_AddrOk d.1).run fun r => some (O_i_AddrOk r) := fun d => by kernel_rfl
theorem fn_i_AddrOk : Fn Tryz.prog 205 .plain F_i_AddrOk := fn_of (cfgOk_of mixed tys_ok (show FnsOk Tryz.prog C_i_AddrOk from ⟨fn_i_within, trivial⟩)) Tryz.func205 (by kernel_rfl) (by kernel_rfl) (fun cx b hp hb => all_of (by kernel_rfl : loopsOf (Tryz.f205.body.getD .skip) = []) trivial b hb) (R := (Bool × Unit)) (T := fun (d : aden P_i_AddrOk) => T_i_AddrOk d.1) e_i_AddrOk
def P_i_PathsOk : List (Bool × List Sh) := [(true, h_7)]
def O_i_PathsOk (r : (Bool × Unit)) : List RV × List RV := ([rv (false, [.bool]) r], [])
def C_i_PathsOk : Fns := [(205, .plain, F_i_AddrOk), (208, .plain, F_i_isNonce), (109, .plain, F_i_within)]
def F_i_PathsOk : Fun1 := funV P_i_PathsOk (fun d => (T_i_PathsOk d.1).val) O_i_PathsOk
def K_i_PathsOk_4 : Sk := ⟨[(1, .box 1 0), (18, .v false [(.sl 274 h_4, .ro)]), (19, .v false [(.int .i64, .nil)]), (20, .v false [(.int .i64, .nil)])], [(1, [(.int .i64, .nil), (.int .i64, .nil), (.sl 274 h_4, .ro)])], []⟩
def X_i_PathsOk_4 : List (Ex × Sk) := [(.ret, ⟨[(2, .v false [(.bool, .nil)])], [], []⟩), ((.exit 0), ⟨[], [], []⟩)]
def K_i_PathsOk_9 : Sk := ⟨[(1, .box 1 0), (4, .box 4 0), (18, .v false [(.sl 274 h_4, .ro)]), (19, .v false [(.int .i64, .nil)]), (20, .v false [(.int .i64, .nil)]), (51, .v false [(.sl 274 h_4, .ro)]), (52, .v false [(.int .i64, .nil)]), (53, .v false [(.int .i64, .nil)])], [(1, [(.int .i64, .nil), (.int .i64, .nil), (.sl 274 h_4, .ro)]), (4, [(.int .i64, .nil), (.int .i64, .nil), (.sl 5 [.int .u8], .ro), (.int .i64, .nil)])], []⟩
def X_i_PathsOk_9 : List (Ex × Sk) := [(.ret, ⟨[(2, .v false [(.bool, .nil)])], [], []⟩), ((.exit 2), ⟨[(1, .box 1 0), (18, .v false [(.sl 274 h_4, .ro)]), (19, .v false [(.int .i64, .nil)]), (20, .v false [(.int .i64, .nil)])], [(1, [(.int .i64, .nil), (.int .i64, .nil), (.sl 274 h_4, .ro)])], []⟩)]
def Q_i_PathsOk : Loops := fun i st => cond (Nat.beq i 9) (lam K_i_PathsOk_9 10000000 X_i_PathsOk_9 B_i_PathsOk_9 st) <| cond (Nat.beq i 4) (lam K_i_PathsOk_4 5000000 X_i_PathsOk_4 B_i_PathsOk_4 st) <| .fail
theorem lp_i_PathsOk_9 : ∀ d, bod ⟨lookT tys, ctrOf C_i_PathsOk, kindOf C_i_PathsOk, 3, 4⟩ 0 Tryz.f224.ntmps Q_i_PathsOk (nthLoop Tryz.f224 1) K_i_PathsOk_9 10000000 X_i_PathsOk_9 d = B_i_PathsOk_9 d := fun d => by kernel_rfl
theorem lo_i_PathsOk_9 (cx : Cx) (hp : cx.pin.length ≤ 0) : LoopOk Tryz.prog cx Tryz.f224.ntmps Q_i_PathsOk (nthLoop Tryz.f224 1) := loop_of (cfgOk_of mixed tys_ok (show FnsOk Tryz.prog C_i_PathsOk from ⟨fn_i_AddrOk, fn_i_isNonce, fn_i_within, trivial⟩)) hp (all_of (by kernel_rfl : loopsOf (nthLoop Tryz.f224 1) = []) trivial) (by kernel_rfl) lp_i_PathsOk_9
theorem lp_i_PathsOk_4 : ∀ d, bod ⟨lookT tys, ctrOf C_i_PathsOk, kindOf C_i_PathsOk, 3, 4⟩ 0 Tryz.f224.ntmps Q_i_PathsOk (nthLoop Tryz.f224 0) K_i_PathsOk_4 5000000 X_i_PathsOk_4 d = B_i_PathsOk_4 d := fun d => by kernel_rfl
theorem lo_i_PathsOk_4 (cx : Cx) (hp : cx.pin.length ≤ 0) : LoopOk Tryz.prog cx Tryz.f224.ntmps Q_i_PathsOk (nthLoop Tryz.f224 0) := loop_of (cfgOk_of mixed tys_ok (show FnsOk Tryz.prog C_i_PathsOk from ⟨fn_i_AddrOk, fn_i_isNonce, fn_i_within, trivial⟩)) hp (all_of (by kernel_rfl : loopsOf (nthLoop Tryz.f224 0) = [nthLoop Tryz.f224 1]) ⟨lo_i_PathsOk_9 cx hp, trivial⟩) (by kernel_rfl) lp_i_PathsOk_4
theorem e_i_PathsOk : ∀ d, pcall ⟨lookT tys, ctrOf C_i_PathsOk, kindOf C_i_PathsOk, 3, 4⟩ 0 Q_i_PathsOk Tryz.f224 .plain (mkA P_i_PathsOk d) = (T_i_PathsOk d.1).run fun r => some (O_i_PathsOk r) := fun d => by kernel_rfl
theorem fn_i_PathsOk : Fn Tryz.prog 224 .plain F_i_PathsOk := fn_of (cfgOk_of mixed tys_ok (show FnsOk Tryz.prog C_i_PathsOk from ⟨fn_i_AddrOk, fn_i_isNonce, fn_i_within, trivial⟩)) Tryz.func224 (by kernel_rfl) (by kernel_rfl) (fun cx b hp hb => all_of (by kernel_rfl : loopsOf (Tryz.f224.body.getD .skip) = [nthLoop Tryz.f224 0]) ⟨lo_i_PathsOk_4 cx hp, trivial⟩ b hb) (R := (Bool × Unit)) (T := fun (d : aden P_i_PathsOk) => T_i_PathsOk d.1) e_i_PathsOk
def P_i_SessOk : List (Bool × List Sh) := [(true, h_13)]
def O_i_SessOk (r : (Bool × Unit)) : List RV × List RV := ([rv (false, [.bool]) r], [])
def C_i_SessOk : Fns := [(109, .plain, F_i_within), (208, .plain, F_i_isNonce), (207, .plain, F_i_isZeroChan), (211, .plain, F_i_ChanOk), (169, .plain, F_bytes_Equal), (224, .plain, F_i_PathsOk)]
def F_i_SessOk : Fun1 := funV P_i_SessOk (fun d => (T_i_SessOk d.1).val) O_i_SessOk
def Q_i_SessOk : Loops := fun _ _ => .fail
theorem e_i_SessOk : ∀ d, pcall ⟨lookT tys, ctrOf C_i_SessOk, kindOf C_i_SessOk, 3, 4⟩ 0 Q_i_SessOk Tryz.f124 .plain (mkA P_i_SessOk d) = (T_i_SessOk d.1).run fun r => some (O_i_SessOk r) := fun d => by kernel_rfl
theorem fn_i_SessOk : Fn Tryz.prog 124 .plain F_i_SessOk := fn_of (cfgOk_of mixed tys_ok (show FnsOk Tryz.prog C_i_SessOk from ⟨fn_i_within, fn_i_isNonce, fn_i_isZeroChan, fn_i_ChanOk, fn_bytes_Equal, fn_i_PathsOk, trivial⟩)) Tryz.func124 (by kernel_rfl) (by kernel_rfl) (fun cx b hp hb => all_of (by kernel_rfl : loopsOf (Tryz.f124.body.getD .skip) = []) trivial b hb) (R := (Bool × Unit)) (T := fun (d : aden P_i_SessOk) => T_i_SessOk d.1) e_i_SessOk
def P_i_Sealed : List (Bool × List Sh) := [(false, [.int .i64])]
def O_i_Sealed (r : (Bool × Unit)) : List RV × List RV := ([rv (false, [.bool]) r], [])
def C_i_Sealed : Fns := [(109, .plain, F_i_within)]
def F_i_Sealed : Fun1 := funV P_i_Sealed (fun d => (T_i_Sealed d.1).val) O_i_Sealed
def Q_i_Sealed : Loops := fun _ _ => .fail
theorem e_i_Sealed : ∀ d, pcall ⟨lookT tys, ctrOf C_i_Sealed, kindOf C_i_Sealed, 3, 4⟩ 0 Q_i_Sealed Tryz.f171 .plain (mkA P_i_Sealed d) = (T_i_Sealed d.1).run fun r => some (O_i_Sealed r) := fun d => by kernel_rfl
theorem fn_i_Sealed : Fn Tryz.prog 171 .plain F_i_Sealed := fn_of (cfgOk_of mixed tys_ok (show FnsOk Tryz.prog C_i_Sealed from ⟨fn_i_within, trivial⟩)) Tryz.func171 (by kernel_rfl) (by kernel_rfl) (fun cx b hp hb => all_of (by kernel_rfl : loopsOf (Tryz.f171.body.getD .skip) = []) trivial b hb) (R := (Bool × Unit)) (T := fun (d : aden P_i_Sealed) => T_i_Sealed d.1) e_i_Sealed
def P_i_bodyOk : List (Bool × List Sh) := [(false, [.int .i64]), (false, [.int .i64])]
def O_i_bodyOk (r : (Bool × Unit)) : List RV × List RV := ([rv (false, [.bool]) r], [])
def C_i_bodyOk : Fns := []
def F_i_bodyOk : Fun1 := funV P_i_bodyOk (fun d => (T_i_bodyOk d.1 d.2.1).val) O_i_bodyOk
def Q_i_bodyOk : Loops := fun _ _ => .fail
theorem e_i_bodyOk : ∀ d, pcall ⟨lookT tys, ctrOf C_i_bodyOk, kindOf C_i_bodyOk, 3, 4⟩ 0 Q_i_bodyOk Tryz.f248 .plain (mkA P_i_bodyOk d) = (T_i_bodyOk d.1 d.2.1).run fun r => some (O_i_bodyOk r) := fun d => by kernel_rfl
theorem fn_i_bodyOk : Fn Tryz.prog 248 .plain F_i_bodyOk := fn_of (cfgOk_of mixed tys_ok (show FnsOk Tryz.prog C_i_bodyOk from trivial)) Tryz.func248 (by kernel_rfl) (by kernel_rfl) (fun cx b hp hb => all_of (by kernel_rfl : loopsOf (Tryz.f248.body.getD .skip) = []) trivial b hb) (R := (Bool × Unit)) (T := fun (d : aden P_i_bodyOk) => T_i_bodyOk d.1 d.2.1) e_i_bodyOk
def P_i_sameFrame : List (Bool × List Sh) := [(true, h_9), (true, h_9)]
def O_i_sameFrame (r : (Bool × Unit)) : List RV × List RV := ([rv (false, [.bool]) r], [])
def C_i_sameFrame : Fns := [(169, .plain, F_bytes_Equal)]
def F_i_sameFrame : Fun1 := funV P_i_sameFrame (fun d => (T_i_sameFrame d.1 d.2.1).val) O_i_sameFrame
def Q_i_sameFrame : Loops := fun _ _ => .fail
theorem e_i_sameFrame : ∀ d, pcall ⟨lookT tys, ctrOf C_i_sameFrame, kindOf C_i_sameFrame, 3, 4⟩ 0 Q_i_sameFrame Tryz.f206 .plain (mkA P_i_sameFrame d) = (T_i_sameFrame d.1 d.2.1).run fun r => some (O_i_sameFrame r) := fun d => by kernel_rfl
theorem fn_i_sameFrame : Fn Tryz.prog 206 .plain F_i_sameFrame := fn_of (cfgOk_of mixed tys_ok (show FnsOk Tryz.prog C_i_sameFrame from ⟨fn_bytes_Equal, trivial⟩)) Tryz.func206 (by kernel_rfl) (by kernel_rfl) (fun cx b hp hb => all_of (by kernel_rfl : loopsOf (Tryz.f206.body.getD .skip) = []) trivial b hb) (R := (Bool × Unit)) (T := fun (d : aden P_i_sameFrame) => T_i_sameFrame d.1 d.2.1) e_i_sameFrame
def P_i_FrameOk : List (Bool × List Sh) := [(true, h_9)]
def O_i_FrameOk (r : (Bool × Unit)) : List RV × List RV := ([rv (false, [.bool]) r], [])
def C_i_FrameOk : Fns := [(109, .plain, F_i_within), (208, .plain, F_i_isNonce), (171, .plain, F_i_Sealed), (248, .plain, F_i_bodyOk), (206, .plain, F_i_sameFrame)]
def F_i_FrameOk : Fun1 := funV P_i_FrameOk (fun d => (T_i_FrameOk d.1).val) O_i_FrameOk
def Q_i_FrameOk : Loops := fun _ _ => .fail
theorem e_i_FrameOk : ∀ d, pcall ⟨lookT tys, ctrOf C_i_FrameOk, kindOf C_i_FrameOk, 3, 4⟩ 0 Q_i_FrameOk Tryz.f168 .plain (mkA P_i_FrameOk d) = (T_i_FrameOk d.1).run fun r => some (O_i_FrameOk r) := fun d => by kernel_rfl
theorem fn_i_FrameOk : Fn Tryz.prog 168 .plain F_i_FrameOk := fn_of (cfgOk_of mixed tys_ok (show FnsOk Tryz.prog C_i_FrameOk from ⟨fn_i_within, fn_i_isNonce, fn_i_Sealed, fn_i_bodyOk, fn_i_sameFrame, trivial⟩)) Tryz.func168 (by kernel_rfl) (by kernel_rfl) (fun cx b hp hb => all_of (by kernel_rfl : loopsOf (Tryz.f168.body.getD .skip) = []) trivial b hb) (R := (Bool × Unit)) (T := fun (d : aden P_i_FrameOk) => T_i_FrameOk d.1) e_i_FrameOk
def P_i_PutN : List (Bool × List Sh) := [(false, [.sl 5 [.int .u8]]), (false, [.int .i64]), (false, [.int .i64])]
def O_i_PutN (r : (YBs)) : List RV × List RV := ([rv (false, [.sl 5 [.int .u8]]) r], [])
def C_i_PutN : Fns := []
def F_i_PutN : Fun1 := funV P_i_PutN (fun d => (T_i_PutN d.1 d.2.1 d.2.2.1).val) O_i_PutN
def K_i_PutN_5 : Sk := ⟨[(1, .v false [(.int .i64, .nil)]), (7, .v false [(.sl 5 [.int .u8], (.own 6000000))]), (8, .v false [(.int .i64, .nil)])], [], [6000000]⟩
def X_i_PutN_5 : List (Ex × Sk) := [((.exit 0), ⟨[(7, .v false [(.sl 5 [.int .u8], (.own 6000000))])], [], [6000000]⟩)]
def Q_i_PutN : Loops := fun i st => cond (Nat.beq i 5) (lam K_i_PutN_5 6000000 X_i_PutN_5 B_i_PutN_5 st) <| .fail
theorem lp_i_PutN_5 : ∀ d, bod ⟨lookT tys, ctrOf C_i_PutN, kindOf C_i_PutN, 3, 4⟩ 0 Tryz.f286.ntmps Q_i_PutN (nthLoop Tryz.f286 0) K_i_PutN_5 6000000 X_i_PutN_5 d = B_i_PutN_5 d := fun d => by kernel_rfl
theorem lo_i_PutN_5 (cx : Cx) (hp : cx.pin.length ≤ 0) : LoopOk Tryz.prog cx Tryz.f286.ntmps Q_i_PutN (nthLoop Tryz.f286 0) := loop_of (cfgOk_of mixed tys_ok (show FnsOk Tryz.prog C_i_PutN from trivial)) hp (all_of (by kernel_rfl : loopsOf (nthLoop Tryz.f286 0) = []) trivial) (by kernel_rfl) lp_i_PutN_5
theorem e_i_PutN : ∀ d, pcall ⟨lookT tys, ctrOf C_i_PutN, kindOf C_i_PutN, 3, 4⟩ 0 Q_i_PutN Tryz.f286 .plain (mkA P_i_PutN d) = (T_i_PutN d.1 d.2.1 d.2.2.1).run fun r => some (O_i_PutN r) := fun d => by kernel_rfl
theorem fn_i_PutN : Fn Tryz.prog 286 .plain F_i_PutN := fn_of (cfgOk_of mixed tys_ok (show FnsOk Tryz.prog C_i_PutN from trivial)) Tryz.func286 (by kernel_rfl) (by kernel_rfl) (fun cx b hp hb => all_of (by kernel_rfl : loopsOf (Tryz.f286.body.getD .skip) = [nthLoop Tryz.f286 0]) ⟨lo_i_PutN_5 cx hp, trivial⟩ b hb) (R := (YBs)) (T := fun (d : aden P_i_PutN) => T_i_PutN d.1 d.2.1 d.2.2.1) e_i_PutN
def P_i_joined : List (Bool × List Sh) := [(false, [.sl 23 [.sl 5 [.int .u8]]])]
def O_i_joined (r : (YBs)) : List RV × List RV := ([rv (false, [.sl 5 [.int .u8]]) r], [])
def C_i_joined : Fns := []
def F_i_joined : Fun1 := funV P_i_joined (fun d => (T_i_joined d.1).val) O_i_joined
def K_i_joined_3 : Sk := ⟨[(3, .v false [(.sl 5 [.int .u8], (.own 4000000))]), (7, .v false [(.sl 23 [.sl 5 [.int .u8]], .ro)]), (8, .v false [(.int .i64, .nil)]), (9, .v false [(.int .i64, .nil)])], [], [4000000]⟩
def X_i_joined_3 : List (Ex × Sk) := [((.exit 0), ⟨[(3, .v false [(.sl 5 [.int .u8], (.own 4000000))])], [], [4000000]⟩)]
def Q_i_joined : Loops := fun i st => cond (Nat.beq i 3) (lam K_i_joined_3 4000000 X_i_joined_3 B_i_joined_3 st) <| .fail
theorem lp_i_joined_3 : ∀ d, bod ⟨lookT tys, ctrOf C_i_joined, kindOf C_i_joined, 3, 4⟩ 0 Tryz.f277.ntmps Q_i_joined (nthLoop Tryz.f277 0) K_i_joined_3 4000000 X_i_joined_3 d = B_i_joined_3 d := fun d => by kernel_rfl
theorem lo_i_joined_3 (cx : Cx) (hp : cx.pin.length ≤ 0) : LoopOk Tryz.prog cx Tryz.f277.ntmps Q_i_joined (nthLoop Tryz.f277 0) := loop_of (cfgOk_of mixed tys_ok (show FnsOk Tryz.prog C_i_joined from trivial)) hp (all_of (by kernel_rfl : loopsOf (nthLoop Tryz.f277 0) = []) trivial) (by kernel_rfl) lp_i_joined_3
theorem e_i_joined : ∀ d, pcall ⟨lookT tys, ctrOf C_i_joined, kindOf C_i_joined, 3, 4⟩ 0 Q_i_joined Tryz.f277 .plain (mkA P_i_joined d) = (T_i_joined d.1).run fun r => some (O_i_joined r) := fun d => by kernel_rfl
theorem fn_i_joined : Fn Tryz.prog 277 .plain F_i_joined := fn_of (cfgOk_of mixed tys_ok (show FnsOk Tryz.prog C_i_joined from trivial)) Tryz.func277 (by kernel_rfl) (by kernel_rfl) (fun cx b hp hb => all_of (by kernel_rfl : loopsOf (Tryz.f277.body.getD .skip) = [nthLoop Tryz.f277 0]) ⟨lo_i_joined_3 cx hp, trivial⟩ b hb) (R := (YBs)) (T := fun (d : aden P_i_joined) => T_i_joined d.1) e_i_joined
def P_i_HeadOf : List (Bool × List Sh) := [(false, [.int .i64]), (false, [.sl 5 [.int .u8]]), (false, [.int .i64]), (false, [.int .i64])]
def O_i_HeadOf (r : (YBs)) : List RV × List RV := ([rv (false, [.sl 5 [.int .u8]]) r], [])
def C_i_HeadOf : Fns := [(273, .plain, F_i_isRole), (208, .plain, F_i_isNonce), (109, .plain, F_i_within), (286, .plain, F_i_PutN), (277, .plain, F_i_joined)]
def F_i_HeadOf : Fun1 := funV P_i_HeadOf (fun d => (T_i_HeadOf d.1 d.2.1 d.2.2.1 d.2.2.2.1).val) O_i_HeadOf
def Q_i_HeadOf : Loops := fun _ _ => .fail
theorem e_i_HeadOf : ∀ d, pcall ⟨lookT tys, ctrOf C_i_HeadOf, kindOf C_i_HeadOf, 3, 4⟩ 0 Q_i_HeadOf Tryz.f278 .plain (mkA P_i_HeadOf d) = (T_i_HeadOf d.1 d.2.1 d.2.2.1 d.2.2.2.1).run fun r => some (O_i_HeadOf r) := fun d => by kernel_rfl
theorem fn_i_HeadOf : Fn Tryz.prog 278 .plain F_i_HeadOf := fn_of (cfgOk_of mixed tys_ok (show FnsOk Tryz.prog C_i_HeadOf from ⟨fn_i_isRole, fn_i_isNonce, fn_i_within, fn_i_PutN, fn_i_joined, trivial⟩)) Tryz.func278 (by kernel_rfl) (by kernel_rfl) (fun cx b hp hb => all_of (by kernel_rfl : loopsOf (Tryz.f278.body.getD .skip) = []) trivial b hb) (R := (YBs)) (T := fun (d : aden P_i_HeadOf) => T_i_HeadOf d.1 d.2.1 d.2.2.1 d.2.2.2.1) e_i_HeadOf
def P_i_Start : List (Bool × List Sh) := []
def O_i_Start (r : ((List YI) × Unit)) : List RV × List RV := ([rv (false, [.sl 3 [.int .i64]]) r], [])
def C_i_Start : Fns := []
def F_i_Start : Fun1 := funV P_i_Start (fun d => (T_i_Start ).val) O_i_Start
def Q_i_Start : Loops := fun _ _ => .fail
theorem e_i_Start : ∀ d, pcall ⟨lookT tys, ctrOf C_i_Start, kindOf C_i_Start, 3, 4⟩ 0 Q_i_Start Tryz.f350 .plain (mkA P_i_Start d) = (T_i_Start ).run fun r => some (O_i_Start r) := fun d => by kernel_rfl
theorem fn_i_Start : Fn Tryz.prog 350 .plain F_i_Start := fn_of (cfgOk_of mixed tys_ok (show FnsOk Tryz.prog C_i_Start from trivial)) Tryz.func350 (by kernel_rfl) (by kernel_rfl) (fun cx b hp hb => all_of (by kernel_rfl : loopsOf (Tryz.f350.body.getD .skip) = []) trivial b hb) (R := ((List YI) × Unit)) (T := fun (d : aden P_i_Start) => T_i_Start ) e_i_Start
def P_i_HashNew : List (Bool × List Sh) := []
def O_i_HashNew (r : (YHash)) : List RV × List RV := ([rv (true, h_3) r], [])
def C_i_HashNew : Fns := [(350, .plain, F_i_Start)]
def F_i_HashNew : Fun1 := funV P_i_HashNew (fun d => (T_i_HashNew ).val) O_i_HashNew
def Q_i_HashNew : Loops := fun _ _ => .fail
theorem e_i_HashNew : ∀ d, pcall ⟨lookT tys, ctrOf C_i_HashNew, kindOf C_i_HashNew, 3, 4⟩ 0 Q_i_HashNew Tryz.f336 .plain (mkA P_i_HashNew d) = (T_i_HashNew ).run fun r => some (O_i_HashNew r) := fun d => by kernel_rfl
theorem fn_i_HashNew : Fn Tryz.prog 336 .plain F_i_HashNew := fn_of (cfgOk_of mixed tys_ok (show FnsOk Tryz.prog C_i_HashNew from ⟨fn_i_Start, trivial⟩)) Tryz.func336 (by kernel_rfl) (by kernel_rfl) (fun cx b hp hb => all_of (by kernel_rfl : loopsOf (Tryz.f336.body.getD .skip) = []) trivial b hb) (R := (YHash)) (T := fun (d : aden P_i_HashNew) => T_i_HashNew ) e_i_HashNew
def P_i_HashOk : List (Bool × List Sh) := [(true, h_3)]
def O_i_HashOk (r : (Bool × Unit)) : List RV × List RV := ([rv (false, [.bool]) r], [])
def C_i_HashOk : Fns := [(327, .plain, F_i_areWords), (109, .plain, F_i_within)]
def F_i_HashOk : Fun1 := funV P_i_HashOk (fun d => (T_i_HashOk d.1).val) O_i_HashOk
def Q_i_HashOk : Loops := fun _ _ => .fail
theorem e_i_HashOk : ∀ d, pcall ⟨lookT tys, ctrOf C_i_HashOk, kindOf C_i_HashOk, 3, 4⟩ 0 Q_i_HashOk Tryz.f346 .plain (mkA P_i_HashOk d) = (T_i_HashOk d.1).run fun r => some (O_i_HashOk r) := fun d => by kernel_rfl
theorem fn_i_HashOk : Fn Tryz.prog 346 .plain F_i_HashOk := fn_of (cfgOk_of mixed tys_ok (show FnsOk Tryz.prog C_i_HashOk from ⟨fn_i_areWords, fn_i_within, trivial⟩)) Tryz.func346 (by kernel_rfl) (by kernel_rfl) (fun cx b hp hb => all_of (by kernel_rfl : loopsOf (Tryz.f346.body.getD .skip) = []) trivial b hb) (R := (Bool × Unit)) (T := fun (d : aden P_i_HashOk) => T_i_HashOk d.1) e_i_HashOk
def P_i_Cut : List (Bool × List Sh) := [(false, [.sl 5 [.int .u8]]), (false, [.int .i64]), (false, [.int .i64])]
def O_i_Cut (r : (YBs) × (Bool × Unit)) : List RV × List RV := ([rv (false, [.sl 5 [.int .u8]]) r.1, rv (false, [.bool]) r.2], [])
def C_i_Cut : Fns := []
def F_i_Cut : Fun1 := funV P_i_Cut (fun d => (T_i_Cut d.1 d.2.1 d.2.2.1).val) O_i_Cut
def Q_i_Cut : Loops := fun _ _ => .fail
theorem e_i_Cut : ∀ d, pcall ⟨lookT tys, ctrOf C_i_Cut, kindOf C_i_Cut, 3, 4⟩ 0 Q_i_Cut Tryz.f358 .plain (mkA P_i_Cut d) = (T_i_Cut d.1 d.2.1 d.2.2.1).run fun r => some (O_i_Cut r) := fun d => by kernel_rfl
theorem fn_i_Cut : Fn Tryz.prog 358 .plain F_i_Cut := fn_of (cfgOk_of mixed tys_ok (show FnsOk Tryz.prog C_i_Cut from trivial)) Tryz.func358 (by kernel_rfl) (by kernel_rfl) (fun cx b hp hb => all_of (by kernel_rfl : loopsOf (Tryz.f358.body.getD .skip) = []) trivial b hb) (R := (YBs) × (Bool × Unit)) (T := fun (d : aden P_i_Cut) => T_i_Cut d.1 d.2.1 d.2.2.1) e_i_Cut
def P_i_GetN : List (Bool × List Sh) := [(false, [.sl 5 [.int .u8]]), (false, [.int .i64]), (false, [.int .i64])]
def O_i_GetN (r : (YI) × (YI) × (Bool × Unit)) : List RV × List RV := ([rv (false, [.int .i64]) r.1, rv (false, [.int .i64]) r.2.1, rv (false, [.bool]) r.2.2], [])
def C_i_GetN : Fns := [(358, .plain, F_i_Cut)]
def F_i_GetN : Fun1 := funV P_i_GetN (fun d => (T_i_GetN d.1 d.2.1 d.2.2.1).val) O_i_GetN
def K_i_GetN_8 : Sk := ⟨[(1, .v false [(.int .i64, .nil)]), (2, .v false [(.int .i64, .nil)]), (11, .v false [(.int .i64, .nil)]), (29, .v false [(.sl 5 [.int .u8], (.own 9000000))]), (30, .v false [(.int .i64, .nil)]), (31, .v false [(.int .i64, .nil)])], [], [9000000]⟩
def X_i_GetN_8 : List (Ex × Sk) := [((.exit 0), ⟨[(1, .v false [(.int .i64, .nil)]), (2, .v false [(.int .i64, .nil)]), (11, .v false [(.int .i64, .nil)])], [], []⟩)]
def Q_i_GetN : Loops := fun i st => cond (Nat.beq i 8) (lam K_i_GetN_8 9000000 X_i_GetN_8 B_i_GetN_8 st) <| .fail
theorem lp_i_GetN_8 : ∀ d, bod ⟨lookT tys, ctrOf C_i_GetN, kindOf C_i_GetN, 3, 4⟩ 0 Tryz.f357.ntmps Q_i_GetN (nthLoop Tryz.f357 0) K_i_GetN_8 9000000 X_i_GetN_8 d = B_i_GetN_8 d := fun d => by kernel_rfl
theorem lo_i_GetN_8 (cx : Cx) (hp : cx.pin.length ≤ 0) : LoopOk Tryz.prog cx Tryz.f357.ntmps Q_i_GetN (nthLoop Tryz.f357 0) := loop_of (cfgOk_of mixed tys_ok (show FnsOk Tryz.prog C_i_GetN from ⟨fn_i_Cut, trivial⟩)) hp (all_of (by kernel_rfl : loopsOf (nthLoop Tryz.f357 0) = []) trivial) (by kernel_rfl) lp_i_GetN_8
theorem e_i_GetN : ∀ d, pcall ⟨lookT tys, ctrOf C_i_GetN, kindOf C_i_GetN, 3, 4⟩ 0 Q_i_GetN Tryz.f357 .plain (mkA P_i_GetN d) = (T_i_GetN d.1 d.2.1 d.2.2.1).run fun r => some (O_i_GetN r) := fun d => by kernel_rfl
theorem fn_i_GetN : Fn Tryz.prog 357 .plain F_i_GetN := fn_of (cfgOk_of mixed tys_ok (show FnsOk Tryz.prog C_i_GetN from ⟨fn_i_Cut, trivial⟩)) Tryz.func357 (by kernel_rfl) (by kernel_rfl) (fun cx b hp hb => all_of (by kernel_rfl : loopsOf (Tryz.f357.body.getD .skip) = [nthLoop Tryz.f357 0]) ⟨lo_i_GetN_8 cx hp, trivial⟩ b hb) (R := (YI) × (YI) × (Bool × Unit)) (T := fun (d : aden P_i_GetN) => T_i_GetN d.1 d.2.1 d.2.2.1) e_i_GetN
def P_i_Rot : List (Bool × List Sh) := [(false, [.int .i64]), (false, [.int .i64])]
def O_i_Rot (r : (YI)) : List RV × List RV := ([rv (false, [.int .i64]) r], [])
def C_i_Rot : Fns := []
def F_i_Rot : Fun1 := funV P_i_Rot (fun d => (T_i_Rot d.1 d.2.1).val) O_i_Rot
def Q_i_Rot : Loops := fun _ _ => .fail
theorem e_i_Rot : ∀ d, pcall ⟨lookT tys, ctrOf C_i_Rot, kindOf C_i_Rot, 3, 4⟩ 0 Q_i_Rot Tryz.f354 .plain (mkA P_i_Rot d) = (T_i_Rot d.1 d.2.1).run fun r => some (O_i_Rot r) := fun d => by kernel_rfl
theorem fn_i_Rot : Fn Tryz.prog 354 .plain F_i_Rot := fn_of (cfgOk_of mixed tys_ok (show FnsOk Tryz.prog C_i_Rot from trivial)) Tryz.func354 (by kernel_rfl) (by kernel_rfl) (fun cx b hp hb => all_of (by kernel_rfl : loopsOf (Tryz.f354.body.getD .skip) = []) trivial b hb) (R := (YI)) (T := fun (d : aden P_i_Rot) => T_i_Rot d.1 d.2.1) e_i_Rot
def P_i_Schedule : List (Bool × List Sh) := [(false, [.sl 5 [.int .u8]])]
def O_i_Schedule (r : ((List YI) × Unit)) : List RV × List RV := ([rv (false, [.sl 3 [.int .i64]]) r], [])
def C_i_Schedule : Fns := [(357, .plain, F_i_GetN), (354, .plain, F_i_Rot)]
def F_i_Schedule : Fun1 := funV P_i_Schedule (fun d => (T_i_Schedule d.1).val) O_i_Schedule
def K_i_Schedule_9 : Sk := ⟨[(3, .v false [(.sl 3 [.int .i64], (.own 10000000))]), (5, .v false [(.int .i64, .nil)])], [], [10000000]⟩
def X_i_Schedule_9 : List (Ex × Sk) := [((.exit 2), ⟨[(3, .v false [(.sl 3 [.int .i64], (.own 10000000))])], [], [10000000]⟩)]
def K_i_Schedule_5 : Sk := ⟨[(0, .v false [(.sl 5 [.int .u8], .ro)]), (3, .v false [(.sl 3 [.int .i64], (.own 6000000))]), (4, .v false [(.int .i64, .nil)])], [], [6000000]⟩
def X_i_Schedule_5 : List (Ex × Sk) := [((.exit 0), ⟨[(3, .v false [(.sl 3 [.int .i64], (.own 6000000))])], [], [6000000]⟩)]
def Q_i_Schedule : Loops := fun i st => cond (Nat.beq i 5) (lam K_i_Schedule_5 6000000 X_i_Schedule_5 B_i_Schedule_5 st) <| cond (Nat.beq i 9) (lam K_i_Schedule_9 10000000 X_i_Schedule_9 B_i_Schedule_9 st) <| .fail
theorem lp_i_Schedule_5 : ∀ d, bod ⟨lookT tys, ctrOf C_i_Schedule, kindOf C_i_Schedule, 3, 4⟩ 0 Tryz.f353.ntmps Q_i_Schedule (nthLoop Tryz.f353 0) K_i_Schedule_5 6000000 X_i_Schedule_5 d = B_i_Schedule_5 d := fun d => by kernel_rfl
theorem lo_i_Schedule_5 (cx : Cx) (hp : cx.pin.length ≤ 0) : LoopOk Tryz.prog cx Tryz.f353.ntmps Q_i_Schedule (nthLoop Tryz.f353 0) := loop_of (cfgOk_of mixed tys_ok (show FnsOk Tryz.prog C_i_Schedule from ⟨fn_i_GetN, fn_i_Rot, trivial⟩)) hp (all_of (by kernel_rfl : loopsOf (nthLoop Tryz.f353 0) = []) trivial) (by kernel_rfl) lp_i_Schedule_5
theorem lp_i_Schedule_9 : ∀ d, bod ⟨lookT tys, ctrOf C_i_Schedule, kindOf C_i_Schedule, 3, 4⟩ 0 Tryz.f353.ntmps Q_i_Schedule (nthLoop Tryz.f353 1) K_i_Schedule_9 10000000 X_i_Schedule_9 d = B_i_Schedule_9 d := fun d => by kernel_rfl
theorem lo_i_Schedule_9 (cx : Cx) (hp : cx.pin.length ≤ 0) : LoopOk Tryz.prog cx Tryz.f353.ntmps Q_i_Schedule (nthLoop Tryz.f353 1) := loop_of (cfgOk_of mixed tys_ok (show FnsOk Tryz.prog C_i_Schedule from ⟨fn_i_GetN, fn_i_Rot, trivial⟩)) hp (all_of (by kernel_rfl : loopsOf (nthLoop Tryz.f353 1) = []) trivial) (by kernel_rfl) lp_i_Schedule_9
theorem e_i_Schedule : ∀ d, pcall ⟨lookT tys, ctrOf C_i_Schedule, kindOf C_i_Schedule, 3, 4⟩ 0 Q_i_Schedule Tryz.f353 .plain (mkA P_i_Schedule d) = (T_i_Schedule d.1).run fun r => some (O_i_Schedule r) := fun d => by kernel_rfl
theorem fn_i_Schedule : Fn Tryz.prog 353 .plain F_i_Schedule := fn_of (cfgOk_of mixed tys_ok (show FnsOk Tryz.prog C_i_Schedule from ⟨fn_i_GetN, fn_i_Rot, trivial⟩)) Tryz.func353 (by kernel_rfl) (by kernel_rfl) (fun cx b hp hb => all_of (by kernel_rfl : loopsOf (Tryz.f353.body.getD .skip) = [nthLoop Tryz.f353 0, nthLoop Tryz.f353 1]) ⟨lo_i_Schedule_5 cx hp, lo_i_Schedule_9 cx hp, trivial⟩ b hb) (R := ((List YI) × Unit)) (T := fun (d : aden P_i_Schedule) => T_i_Schedule d.1) e_i_Schedule
theorem round_any (n : Int) (w : World) (h0 : 0 ≤ n) (h1 : n ≤ 63) :
    Calls Tryz.prog 355 #[.int .i64 n] w (Ret w (.int .i64 (roundL[n.toNat]?.getD 0))) := by
  have hx : ∃ x, roundL[n.toNat]? = some x := ⟨_, List.getElem?_eq_getElem (by simp [roundL]; omega)⟩
  obtain ⟨x, hx⟩ := hx
  have hcell : (putRow 310 w roundC).cell? ⟨w.heap.size, n.toNat, none⟩ = some (.int .i64 x) := by
    rw [putRow_cell]; unfold roundC; rw [List.getElem?_toArray, List.getElem?_map, hx]; rfl
  rw [hx]
  go_enter Tryz.func355, Tryz.ntmps355
  go_wp2_with (first | (refine wpList_buildC rfl 310 _ rfl roundC (by kernel_rfl) ?_) | (refine wpList_allocC rfl 310 rfl _ _ zeroC (by kernel_rfl) (by kernel_rfl) (by kernel_rfl) ?_) | (refine wpList_storeC rfl 310 _ _ rfl roundC rfl rfl (by kernel_rfl) (by kernel_rfl) (by kernel_rfl) ?_))
  go_ret
  refine Ret.mk rfl ?_
  rw [putRow_eq]
  exact (Grew.refl _).alloc _
theorem round_out (n : Int) (w : World) (h0 : ¬ (0 ≤ n ∧ n ≤ 63)) :
    Calls Tryz.prog 355 #[.int .i64 n] w (Ret w (.int .i64 0)) := by
  by_cases h : n < 0
  · go_enter Tryz.func355, Tryz.ntmps355
    go_wp2_with fail
    go_ret
    exact Ret.mk rfl (Grew.refl _)
  · have h2 : 63 < n := by omega
    go_enter Tryz.func355, Tryz.ntmps355
    go_wp2_with fail
    go_ret
    exact Ret.mk rfl (Grew.refl _)
def P_i_RoundWord : List (Bool × List Sh) := [(false, [.int .i64])]
def O_i_RoundWord (r : YI) : List RV × List RV := ([rv (false, [.int .i64]) r], [])
def F_i_RoundWord : Fun1 := funV P_i_RoundWord (fun d => (T_i_RoundWord d.1).val) O_i_RoundWord
theorem fn_i_RoundWord : Fn Tryz.prog 355 .plain F_i_RoundWord := by
  refine ⟨?_, Tryz.f355, Tryz.func355, by kernel_rfl, by kernel_rfl⟩
  intro rs res vals w G hv hG hr
  obtain ⟨d, x, rfl, h1, h2⟩ := funV_val hv
  obtain ⟨⟨n, _⟩, _⟩ := d
  cases h1
  subst h2
  match vals, hr with
  | [v], hr =>
    have e : v = .int .i64 n := hr.1.1.1
    subst e
    refine (?_ : Calls Tryz.prog 355 #[.int .i64 n] w (Ret w (.int .i64 (roundW n)))).mono fun e w' h => gives_int (roundW_wf n) h
    unfold roundW
    by_cases h : 0 ≤ n ∧ n ≤ 63
    · rw [if_pos h]; exact round_any n w h.1 h.2
    · rw [if_neg h]; exact round_out n w h

def P_i_Add32 : List (Bool × List Sh) := [(false, [.int .i64]), (false, [.int .i64])]
def O_i_Add32 (r : (YI)) : List RV × List RV := ([rv (false, [.int .i64]) r], [])
def C_i_Add32 : Fns := []
def F_i_Add32 : Fun1 := funV P_i_Add32 (fun d => (T_i_Add32 d.1 d.2.1).val) O_i_Add32
def Q_i_Add32 : Loops := fun _ _ => .fail
theorem e_i_Add32 : ∀ d, pcall ⟨lookT tys, ctrOf C_i_Add32, kindOf C_i_Add32, 3, 4⟩ 0 Q_i_Add32 Tryz.f356 .plain (mkA P_i_Add32 d) = (T_i_Add32 d.1 d.2.1).run fun r => some (O_i_Add32 r) := fun d => by kernel_rfl
theorem fn_i_Add32 : Fn Tryz.prog 356 .plain F_i_Add32 := fn_of (cfgOk_of mixed tys_ok (show FnsOk Tryz.prog C_i_Add32 from trivial)) Tryz.func356 (by kernel_rfl) (by kernel_rfl) (fun cx b hp hb => all_of (by kernel_rfl : loopsOf (Tryz.f356.body.getD .skip) = []) trivial b hb) (R := (YI)) (T := fun (d : aden P_i_Add32) => T_i_Add32 d.1 d.2.1) e_i_Add32
def P_i_Compress : List (Bool × List Sh) := [(false, [.sl 3 [.int .i64]]), (false, [.sl 5 [.int .u8]])]
def O_i_Compress (r : ((List YI) × Unit)) : List RV × List RV := ([rv (false, [.sl 3 [.int .i64]]) r], [])
def C_i_Compress : Fns := [(327, .plain, F_i_areWords), (353, .plain, F_i_Schedule), (354, .plain, F_i_Rot), (355, .plain, F_i_RoundWord), (356, .plain, F_i_Add32)]
def F_i_Compress : Fun1 := funV P_i_Compress (fun d => (T_i_Compress d.1 d.2.1).val) O_i_Compress
def K_i_Compress_16 : Sk := ⟨[(0, .v false [(.sl 3 [.int .i64], .ro)]), (5, .v false [(.sl 3 [.int .i64], (.own 17000000))]), (133, .v false [(.sl 3 [.int .i64], (.own 17000001))]), (134, .v false [(.int .i64, .nil)]), (135, .v false [(.int .i64, .nil)])], [], [17000000, 17000001]⟩
def X_i_Compress_16 : List (Ex × Sk) := [((.exit 2), ⟨[(5, .v false [(.sl 3 [.int .i64], (.own 17000000))])], [], [17000000]⟩)]
def K_i_Compress_7 : Sk := ⟨[(0, .v false [(.sl 3 [.int .i64], .ro)]), (5, .v false [(.sl 3 [.int .i64], (.own 8000000))]), (6, .v false [(.sl 3 [.int .i64], (.own 8000001))]), (7, .v false [(.int .i64, .nil)]), (8, .v false [(.int .i64, .nil)]), (9, .v false [(.int .i64, .nil)]), (10, .v false [(.int .i64, .nil)]), (11, .v false [(.int .i64, .nil)]), (12, .v false [(.int .i64, .nil)]), (13, .v false [(.int .i64, .nil)]), (14, .v false [(.int .i64, .nil)]), (15, .v false [(.int .i64, .nil)])], [], [8000000, 8000001]⟩
def X_i_Compress_7 : List (Ex × Sk) := [((.exit 0), ⟨[(0, .v false [(.sl 3 [.int .i64], .ro)]), (5, .v false [(.sl 3 [.int .i64], (.own 8000000))]), (7, .v false [(.int .i64, .nil)]), (8, .v false [(.int .i64, .nil)]), (9, .v false [(.int .i64, .nil)]), (10, .v false [(.int .i64, .nil)]), (11, .v false [(.int .i64, .nil)]), (12, .v false [(.int .i64, .nil)]), (13, .v false [(.int .i64, .nil)]), (14, .v false [(.int .i64, .nil)])], [], [8000000]⟩)]
def Q_i_Compress : Loops := fun i st => cond (Nat.beq i 7) (lam K_i_Compress_7 8000000 X_i_Compress_7 B_i_Compress_7 st) <| cond (Nat.beq i 16) (lam K_i_Compress_16 17000000 X_i_Compress_16 B_i_Compress_16 st) <| .fail
theorem lp_i_Compress_7 : ∀ d, bod ⟨lookT tys, ctrOf C_i_Compress, kindOf C_i_Compress, 3, 4⟩ 0 Tryz.f352.ntmps Q_i_Compress (nthLoop Tryz.f352 0) K_i_Compress_7 8000000 X_i_Compress_7 d = B_i_Compress_7 d := fun d => by kernel_rfl
theorem lo_i_Compress_7 (cx : Cx) (hp : cx.pin.length ≤ 0) : LoopOk Tryz.prog cx Tryz.f352.ntmps Q_i_Compress (nthLoop Tryz.f352 0) := loop_of (cfgOk_of mixed tys_ok (show FnsOk Tryz.prog C_i_Compress from ⟨fn_i_areWords, fn_i_Schedule, fn_i_Rot, fn_i_RoundWord, fn_i_Add32, trivial⟩)) hp (all_of (by kernel_rfl : loopsOf (nthLoop Tryz.f352 0) = []) trivial) (by kernel_rfl) lp_i_Compress_7
theorem lp_i_Compress_16 : ∀ d, bod ⟨lookT tys, ctrOf C_i_Compress, kindOf C_i_Compress, 3, 4⟩ 0 Tryz.f352.ntmps Q_i_Compress (nthLoop Tryz.f352 1) K_i_Compress_16 17000000 X_i_Compress_16 d = B_i_Compress_16 d := fun d => by kernel_rfl
theorem lo_i_Compress_16 (cx : Cx) (hp : cx.pin.length ≤ 0) : LoopOk Tryz.prog cx Tryz.f352.ntmps Q_i_Compress (nthLoop Tryz.f352 1) := loop_of (cfgOk_of mixed tys_ok (show FnsOk Tryz.prog C_i_Compress from ⟨fn_i_areWords, fn_i_Schedule, fn_i_Rot, fn_i_RoundWord, fn_i_Add32, trivial⟩)) hp (all_of (by kernel_rfl : loopsOf (nthLoop Tryz.f352 1) = []) trivial) (by kernel_rfl) lp_i_Compress_16
theorem e_i_Compress : ∀ d, pcall ⟨lookT tys, ctrOf C_i_Compress, kindOf C_i_Compress, 3, 4⟩ 0 Q_i_Compress Tryz.f352 .plain (mkA P_i_Compress d) = (T_i_Compress d.1 d.2.1).run fun r => some (O_i_Compress r) := fun d => by kernel_rfl
theorem fn_i_Compress : Fn Tryz.prog 352 .plain F_i_Compress := fn_of (cfgOk_of mixed tys_ok (show FnsOk Tryz.prog C_i_Compress from ⟨fn_i_areWords, fn_i_Schedule, fn_i_Rot, fn_i_RoundWord, fn_i_Add32, trivial⟩)) Tryz.func352 (by kernel_rfl) (by kernel_rfl) (fun cx b hp hb => all_of (by kernel_rfl : loopsOf (Tryz.f352.body.getD .skip) = [nthLoop Tryz.f352 0, nthLoop Tryz.f352 1]) ⟨lo_i_Compress_7 cx hp, lo_i_Compress_16 cx hp, trivial⟩ b hb) (R := ((List YI) × Unit)) (T := fun (d : aden P_i_Compress) => T_i_Compress d.1 d.2.1) e_i_Compress
def P_i_compressAll : List (Bool × List Sh) := [(false, [.sl 3 [.int .i64]]), (false, [.sl 5 [.int .u8]])]
def O_i_compressAll (r : ((List YI) × Unit) × (YBs)) : List RV × List RV := ([rv (false, [.sl 3 [.int .i64]]) r.1, rv (false, [.sl 5 [.int .u8]]) r.2], [])
def C_i_compressAll : Fns := [(352, .plain, F_i_Compress)]
def F_i_compressAll : Fun1 := funV P_i_compressAll (fun d => (T_i_compressAll d.1 d.2.1).val) O_i_compressAll
def K_i_compressAll_1 : Sk := ⟨[(0, .v false [(.sl 3 [.int .i64], .rd)]), (1, .v false [(.sl 5 [.int .u8], .ro)])], [], []⟩
def X_i_compressAll_1 : List (Ex × Sk) := [((.exit 0), ⟨[(0, .v false [(.sl 3 [.int .i64], .rd)]), (1, .v false [(.sl 5 [.int .u8], .ro)])], [], []⟩)]
def Q_i_compressAll : Loops := fun i st => cond (Nat.beq i 1) (lam K_i_compressAll_1 2000000 X_i_compressAll_1 B_i_compressAll_1 st) <| .fail
theorem lp_i_compressAll_1 : ∀ d, bod ⟨lookT tys, ctrOf C_i_compressAll, kindOf C_i_compressAll, 3, 4⟩ 0 Tryz.f347.ntmps Q_i_compressAll (nthLoop Tryz.f347 0) K_i_compressAll_1 2000000 X_i_compressAll_1 d = B_i_compressAll_1 d := fun d => by kernel_rfl
theorem lo_i_compressAll_1 (cx : Cx) (hp : cx.pin.length ≤ 0) : LoopOk Tryz.prog cx Tryz.f347.ntmps Q_i_compressAll (nthLoop Tryz.f347 0) := loop_of (cfgOk_of mixed tys_ok (show FnsOk Tryz.prog C_i_compressAll from ⟨fn_i_Compress, trivial⟩)) hp (all_of (by kernel_rfl : loopsOf (nthLoop Tryz.f347 0) = []) trivial) (by kernel_rfl) lp_i_compressAll_1
theorem e_i_compressAll : ∀ d, pcall ⟨lookT tys, ctrOf C_i_compressAll, kindOf C_i_compressAll, 3, 4⟩ 0 Q_i_compressAll Tryz.f347 .view (mkA P_i_compressAll d) = (T_i_compressAll d.1 d.2.1).run fun r => some (O_i_compressAll r) := fun d => by kernel_rfl
theorem fn_i_compressAll : Fn Tryz.prog 347 .view F_i_compressAll := fn_of (cfgOk_of mixed tys_ok (show FnsOk Tryz.prog C_i_compressAll from ⟨fn_i_Compress, trivial⟩)) Tryz.func347 (by kernel_rfl) (by kernel_rfl) (fun cx b hp hb => all_of (by kernel_rfl : loopsOf (Tryz.f347.body.getD .skip) = [nthLoop Tryz.f347 0]) ⟨lo_i_compressAll_1 cx hp, trivial⟩ b hb) (R := ((List YI) × Unit) × (YBs)) (T := fun (d : aden P_i_compressAll) => T_i_compressAll d.1 d.2.1) e_i_compressAll
def P_i_HashAdd : List (Bool × List Sh) := [(true, h_3), (false, [.sl 5 [.int .u8]])]
def O_i_HashAdd (r : (YHash)) : List RV × List RV := ([rv (true, h_3) r], [])
def C_i_HashAdd : Fns := [(346, .plain, F_i_HashOk), (111, .plain, F_i_clone), (277, .plain, F_i_joined), (347, .view, F_i_compressAll)]
def F_i_HashAdd : Fun1 := funV P_i_HashAdd (fun d => (T_i_HashAdd d.1 d.2.1).val) O_i_HashAdd
def Q_i_HashAdd : Loops := fun _ _ => .fail
theorem e_i_HashAdd : ∀ d, pcall ⟨lookT tys, ctrOf C_i_HashAdd, kindOf C_i_HashAdd, 3, 4⟩ 0 Q_i_HashAdd Tryz.f335 .plain (mkA P_i_HashAdd d) = (T_i_HashAdd d.1 d.2.1).run fun r => some (O_i_HashAdd r) := fun d => by kernel_rfl
theorem fn_i_HashAdd : Fn Tryz.prog 335 .plain F_i_HashAdd := fn_of (cfgOk_of mixed tys_ok (show FnsOk Tryz.prog C_i_HashAdd from ⟨fn_i_HashOk, fn_i_clone, fn_i_joined, fn_i_compressAll, trivial⟩)) Tryz.func335 (by kernel_rfl) (by kernel_rfl) (fun cx b hp hb => all_of (by kernel_rfl : loopsOf (Tryz.f335.body.getD .skip) = []) trivial b hb) (R := (YHash)) (T := fun (d : aden P_i_HashAdd) => T_i_HashAdd d.1 d.2.1) e_i_HashAdd
def P_i_Pad : List (Bool × List Sh) := [(false, [.int .i64])]
def O_i_Pad (r : (YBs)) : List RV × List RV := ([rv (false, [.sl 5 [.int .u8]]) r], [])
def C_i_Pad : Fns := [(109, .plain, F_i_within), (286, .plain, F_i_PutN)]
def F_i_Pad : Fun1 := funV P_i_Pad (fun d => (T_i_Pad d.1).val) O_i_Pad
def K_i_Pad_4 : Sk := ⟨[(0, .v false [(.int .i64, .nil)]), (3, .v false [(.sl 5 [.int .u8], (.own 5000000))])], [], [5000000]⟩
def X_i_Pad_4 : List (Ex × Sk) := [((.exit 0), ⟨[(0, .v false [(.int .i64, .nil)]), (3, .v false [(.sl 5 [.int .u8], (.own 5000000))])], [], [5000000]⟩)]
def Q_i_Pad : Loops := fun i st => cond (Nat.beq i 4) (lam K_i_Pad_4 5000000 X_i_Pad_4 B_i_Pad_4 st) <| .fail
theorem lp_i_Pad_4 : ∀ d, bod ⟨lookT tys, ctrOf C_i_Pad, kindOf C_i_Pad, 3, 4⟩ 0 Tryz.f348.ntmps Q_i_Pad (nthLoop Tryz.f348 0) K_i_Pad_4 5000000 X_i_Pad_4 d = B_i_Pad_4 d := fun d => by kernel_rfl
theorem lo_i_Pad_4 (cx : Cx) (hp : cx.pin.length ≤ 0) : LoopOk Tryz.prog cx Tryz.f348.ntmps Q_i_Pad (nthLoop Tryz.f348 0) := loop_of (cfgOk_of mixed tys_ok (show FnsOk Tryz.prog C_i_Pad from ⟨fn_i_within, fn_i_PutN, trivial⟩)) hp (all_of (by kernel_rfl : loopsOf (nthLoop Tryz.f348 0) = []) trivial) (by kernel_rfl) lp_i_Pad_4
theorem e_i_Pad : ∀ d, pcall ⟨lookT tys, ctrOf C_i_Pad, kindOf C_i_Pad, 3, 4⟩ 0 Q_i_Pad Tryz.f348 .plain (mkA P_i_Pad d) = (T_i_Pad d.1).run fun r => some (O_i_Pad r) := fun d => by kernel_rfl
theorem fn_i_Pad : Fn Tryz.prog 348 .plain F_i_Pad := fn_of (cfgOk_of mixed tys_ok (show FnsOk Tryz.prog C_i_Pad from ⟨fn_i_within, fn_i_PutN, trivial⟩)) Tryz.func348 (by kernel_rfl) (by kernel_rfl) (fun cx b hp hb => all_of (by kernel_rfl : loopsOf (Tryz.f348.body.getD .skip) = [nthLoop Tryz.f348 0]) ⟨lo_i_Pad_4 cx hp, trivial⟩ b hb) (R := (YBs)) (T := fun (d : aden P_i_Pad) => T_i_Pad d.1) e_i_Pad
def P_i_wordBytes : List (Bool × List Sh) := [(false, [.sl 3 [.int .i64]])]
def O_i_wordBytes (r : (YBs)) : List RV × List RV := ([rv (false, [.sl 5 [.int .u8]]) r], [])
def C_i_wordBytes : Fns := [(286, .plain, F_i_PutN)]
def F_i_wordBytes : Fun1 := funV P_i_wordBytes (fun d => (T_i_wordBytes d.1).val) O_i_wordBytes
def K_i_wordBytes_3 : Sk := ⟨[(3, .v false [(.sl 5 [.int .u8], (.own 4000000))]), (7, .v false [(.sl 3 [.int .i64], .ro)]), (8, .v false [(.int .i64, .nil)]), (9, .v false [(.int .i64, .nil)])], [], [4000000]⟩
def X_i_wordBytes_3 : List (Ex × Sk) := [((.exit 0), ⟨[(3, .v false [(.sl 5 [.int .u8], (.own 4000000))])], [], [4000000]⟩)]
def Q_i_wordBytes : Loops := fun i st => cond (Nat.beq i 3) (lam K_i_wordBytes_3 4000000 X_i_wordBytes_3 B_i_wordBytes_3 st) <| .fail
theorem lp_i_wordBytes_3 : ∀ d, bod ⟨lookT tys, ctrOf C_i_wordBytes, kindOf C_i_wordBytes, 3, 4⟩ 0 Tryz.f349.ntmps Q_i_wordBytes (nthLoop Tryz.f349 0) K_i_wordBytes_3 4000000 X_i_wordBytes_3 d = B_i_wordBytes_3 d := fun d => by kernel_rfl
theorem lo_i_wordBytes_3 (cx : Cx) (hp : cx.pin.length ≤ 0) : LoopOk Tryz.prog cx Tryz.f349.ntmps Q_i_wordBytes (nthLoop Tryz.f349 0) := loop_of (cfgOk_of mixed tys_ok (show FnsOk Tryz.prog C_i_wordBytes from ⟨fn_i_PutN, trivial⟩)) hp (all_of (by kernel_rfl : loopsOf (nthLoop Tryz.f349 0) = []) trivial) (by kernel_rfl) lp_i_wordBytes_3
theorem e_i_wordBytes : ∀ d, pcall ⟨lookT tys, ctrOf C_i_wordBytes, kindOf C_i_wordBytes, 3, 4⟩ 0 Q_i_wordBytes Tryz.f349 .plain (mkA P_i_wordBytes d) = (T_i_wordBytes d.1).run fun r => some (O_i_wordBytes r) := fun d => by kernel_rfl
theorem fn_i_wordBytes : Fn Tryz.prog 349 .plain F_i_wordBytes := fn_of (cfgOk_of mixed tys_ok (show FnsOk Tryz.prog C_i_wordBytes from ⟨fn_i_PutN, trivial⟩)) Tryz.func349 (by kernel_rfl) (by kernel_rfl) (fun cx b hp hb => all_of (by kernel_rfl : loopsOf (Tryz.f349.body.getD .skip) = [nthLoop Tryz.f349 0]) ⟨lo_i_wordBytes_3 cx hp, trivial⟩ b hb) (R := (YBs)) (T := fun (d : aden P_i_wordBytes) => T_i_wordBytes d.1) e_i_wordBytes
def P_i_HashEnd : List (Bool × List Sh) := [(true, h_3)]
def O_i_HashEnd (r : (YBs)) : List RV × List RV := ([rv (false, [.sl 5 [.int .u8]]) r], [])
def C_i_HashEnd : Fns := [(346, .plain, F_i_HashOk), (348, .plain, F_i_Pad), (277, .plain, F_i_joined), (347, .view, F_i_compressAll), (349, .plain, F_i_wordBytes)]
def F_i_HashEnd : Fun1 := funV P_i_HashEnd (fun d => (T_i_HashEnd d.1).val) O_i_HashEnd
def Q_i_HashEnd : Loops := fun _ _ => .fail
theorem e_i_HashEnd : ∀ d, pcall ⟨lookT tys, ctrOf C_i_HashEnd, kindOf C_i_HashEnd, 3, 4⟩ 0 Q_i_HashEnd Tryz.f334 .plain (mkA P_i_HashEnd d) = (T_i_HashEnd d.1).run fun r => some (O_i_HashEnd r) := fun d => by kernel_rfl
theorem fn_i_HashEnd : Fn Tryz.prog 334 .plain F_i_HashEnd := fn_of (cfgOk_of mixed tys_ok (show FnsOk Tryz.prog C_i_HashEnd from ⟨fn_i_HashOk, fn_i_Pad, fn_i_joined, fn_i_compressAll, fn_i_wordBytes, trivial⟩)) Tryz.func334 (by kernel_rfl) (by kernel_rfl) (fun cx b hp hb => all_of (by kernel_rfl : loopsOf (Tryz.f334.body.getD .skip) = []) trivial b hb) (R := (YBs)) (T := fun (d : aden P_i_HashEnd) => T_i_HashEnd d.1) e_i_HashEnd
def P_i_Sha : List (Bool × List Sh) := [(false, [.sl 5 [.int .u8]])]
def O_i_Sha (r : (YBs)) : List RV × List RV := ([rv (false, [.sl 5 [.int .u8]]) r], [])
def C_i_Sha : Fns := [(336, .plain, F_i_HashNew), (335, .plain, F_i_HashAdd), (334, .plain, F_i_HashEnd)]
def F_i_Sha : Fun1 := funV P_i_Sha (fun d => (T_i_Sha d.1).val) O_i_Sha
def Q_i_Sha : Loops := fun _ _ => .fail
theorem e_i_Sha : ∀ d, pcall ⟨lookT tys, ctrOf C_i_Sha, kindOf C_i_Sha, 3, 4⟩ 0 Q_i_Sha Tryz.f318 .plain (mkA P_i_Sha d) = (T_i_Sha d.1).run fun r => some (O_i_Sha r) := fun d => by kernel_rfl
theorem fn_i_Sha : Fn Tryz.prog 318 .plain F_i_Sha := fn_of (cfgOk_of mixed tys_ok (show FnsOk Tryz.prog C_i_Sha from ⟨fn_i_HashNew, fn_i_HashAdd, fn_i_HashEnd, trivial⟩)) Tryz.func318 (by kernel_rfl) (by kernel_rfl) (fun cx b hp hb => all_of (by kernel_rfl : loopsOf (Tryz.f318.body.getD .skip) = []) trivial b hb) (R := (YBs)) (T := fun (d : aden P_i_Sha) => T_i_Sha d.1) e_i_Sha
def P_i_BlockKey : List (Bool × List Sh) := [(false, [.sl 5 [.int .u8]])]
def O_i_BlockKey (r : (YBs)) : List RV × List RV := ([rv (false, [.sl 5 [.int .u8]]) r], [])
def C_i_BlockKey : Fns := [(111, .plain, F_i_clone), (318, .plain, F_i_Sha)]
def F_i_BlockKey : Fun1 := funV P_i_BlockKey (fun d => (T_i_BlockKey d.1).val) O_i_BlockKey
def K_i_BlockKey_6 : Sk := ⟨[(3, .v false [(.sl 5 [.int .u8], (.own 7000000))])], [], [7000000]⟩
def X_i_BlockKey_6 : List (Ex × Sk) := [((.exit 0), ⟨[(3, .v false [(.sl 5 [.int .u8], (.own 7000000))])], [], [7000000]⟩)]
def Q_i_BlockKey : Loops := fun i st => cond (Nat.beq i 6) (lam K_i_BlockKey_6 7000000 X_i_BlockKey_6 B_i_BlockKey_6 st) <| .fail
theorem lp_i_BlockKey_6 : ∀ d, bod ⟨lookT tys, ctrOf C_i_BlockKey, kindOf C_i_BlockKey, 3, 4⟩ 0 Tryz.f317.ntmps Q_i_BlockKey (nthLoop Tryz.f317 0) K_i_BlockKey_6 7000000 X_i_BlockKey_6 d = B_i_BlockKey_6 d := fun d => by kernel_rfl
theorem lo_i_BlockKey_6 (cx : Cx) (hp : cx.pin.length ≤ 0) : LoopOk Tryz.prog cx Tryz.f317.ntmps Q_i_BlockKey (nthLoop Tryz.f317 0) := loop_of (cfgOk_of mixed tys_ok (show FnsOk Tryz.prog C_i_BlockKey from ⟨fn_i_clone, fn_i_Sha, trivial⟩)) hp (all_of (by kernel_rfl : loopsOf (nthLoop Tryz.f317 0) = []) trivial) (by kernel_rfl) lp_i_BlockKey_6
theorem e_i_BlockKey : ∀ d, pcall ⟨lookT tys, ctrOf C_i_BlockKey, kindOf C_i_BlockKey, 3, 4⟩ 0 Q_i_BlockKey Tryz.f317 .plain (mkA P_i_BlockKey d) = (T_i_BlockKey d.1).run fun r => some (O_i_BlockKey r) := fun d => by kernel_rfl
theorem fn_i_BlockKey : Fn Tryz.prog 317 .plain F_i_BlockKey := fn_of (cfgOk_of mixed tys_ok (show FnsOk Tryz.prog C_i_BlockKey from ⟨fn_i_clone, fn_i_Sha, trivial⟩)) Tryz.func317 (by kernel_rfl) (by kernel_rfl) (fun cx b hp hb => all_of (by kernel_rfl : loopsOf (Tryz.f317.body.getD .skip) = [nthLoop Tryz.f317 0]) ⟨lo_i_BlockKey_6 cx hp, trivial⟩ b hb) (R := (YBs)) (T := fun (d : aden P_i_BlockKey) => T_i_BlockKey d.1) e_i_BlockKey
def P_i_masked : List (Bool × List Sh) := [(false, [.sl 5 [.int .u8]]), (false, [.int .u8])]
def O_i_masked (r : (YBs)) : List RV × List RV := ([rv (false, [.sl 5 [.int .u8]]) r], [])
def C_i_masked : Fns := []
def F_i_masked : Fun1 := funV P_i_masked (fun d => (T_i_masked d.1 d.2.1).val) O_i_masked
def K_i_masked_3 : Sk := ⟨[(1, .v false [(.int .u8, .nil)]), (5, .v false [(.sl 5 [.int .u8], (.own 4000000))]), (9, .v false [(.sl 5 [.int .u8], .ro)]), (10, .v false [(.int .i64, .nil)]), (11, .v false [(.int .i64, .nil)])], [], [4000000]⟩
def X_i_masked_3 : List (Ex × Sk) := [((.exit 0), ⟨[(5, .v false [(.sl 5 [.int .u8], (.own 4000000))])], [], [4000000]⟩)]
def Q_i_masked : Loops := fun i st => cond (Nat.beq i 3) (lam K_i_masked_3 4000000 X_i_masked_3 B_i_masked_3 st) <| .fail
theorem lp_i_masked_3 : ∀ d, bod ⟨lookT tys, ctrOf C_i_masked, kindOf C_i_masked, 3, 4⟩ 0 Tryz.f319.ntmps Q_i_masked (nthLoop Tryz.f319 0) K_i_masked_3 4000000 X_i_masked_3 d = B_i_masked_3 d := fun d => by kernel_rfl
theorem lo_i_masked_3 (cx : Cx) (hp : cx.pin.length ≤ 0) : LoopOk Tryz.prog cx Tryz.f319.ntmps Q_i_masked (nthLoop Tryz.f319 0) := loop_of (cfgOk_of mixed tys_ok (show FnsOk Tryz.prog C_i_masked from trivial)) hp (all_of (by kernel_rfl : loopsOf (nthLoop Tryz.f319 0) = []) trivial) (by kernel_rfl) lp_i_masked_3
theorem e_i_masked : ∀ d, pcall ⟨lookT tys, ctrOf C_i_masked, kindOf C_i_masked, 3, 4⟩ 0 Q_i_masked Tryz.f319 .plain (mkA P_i_masked d) = (T_i_masked d.1 d.2.1).run fun r => some (O_i_masked r) := fun d => by kernel_rfl
theorem fn_i_masked : Fn Tryz.prog 319 .plain F_i_masked := fn_of (cfgOk_of mixed tys_ok (show FnsOk Tryz.prog C_i_masked from trivial)) Tryz.func319 (by kernel_rfl) (by kernel_rfl) (fun cx b hp hb => all_of (by kernel_rfl : loopsOf (Tryz.f319.body.getD .skip) = [nthLoop Tryz.f319 0]) ⟨lo_i_masked_3 cx hp, trivial⟩ b hb) (R := (YBs)) (T := fun (d : aden P_i_masked) => T_i_masked d.1 d.2.1) e_i_masked
def P_i_Hmac : List (Bool × List Sh) := [(false, [.sl 5 [.int .u8]]), (false, [.sl 5 [.int .u8]])]
def O_i_Hmac (r : (YBs)) : List RV × List RV := ([rv (false, [.sl 5 [.int .u8]]) r], [])
def C_i_Hmac : Fns := [(317, .plain, F_i_BlockKey), (319, .plain, F_i_masked), (277, .plain, F_i_joined), (318, .plain, F_i_Sha)]
def F_i_Hmac : Fun1 := funV P_i_Hmac (fun d => (T_i_Hmac d.1 d.2.1).val) O_i_Hmac
def Q_i_Hmac : Loops := fun _ _ => .fail
theorem e_i_Hmac : ∀ d, pcall ⟨lookT tys, ctrOf C_i_Hmac, kindOf C_i_Hmac, 3, 4⟩ 0 Q_i_Hmac Tryz.f290 .plain (mkA P_i_Hmac d) = (T_i_Hmac d.1 d.2.1).run fun r => some (O_i_Hmac r) := fun d => by kernel_rfl
theorem fn_i_Hmac : Fn Tryz.prog 290 .plain F_i_Hmac := fn_of (cfgOk_of mixed tys_ok (show FnsOk Tryz.prog C_i_Hmac from ⟨fn_i_BlockKey, fn_i_masked, fn_i_joined, fn_i_Sha, trivial⟩)) Tryz.func290 (by kernel_rfl) (by kernel_rfl) (fun cx b hp hb => all_of (by kernel_rfl : loopsOf (Tryz.f290.body.getD .skip) = []) trivial b hb) (R := (YBs)) (T := fun (d : aden P_i_Hmac) => T_i_Hmac d.1 d.2.1) e_i_Hmac
def P_i_BlockOf : List (Bool × List Sh) := [(false, [.sl 5 [.int .u8]]), (false, [.sl 5 [.int .u8]]), (false, [.int .i64])]
def O_i_BlockOf (r : (YBs)) : List RV × List RV := ([rv (false, [.sl 5 [.int .u8]]) r], [])
def C_i_BlockOf : Fns := [(109, .plain, F_i_within), (277, .plain, F_i_joined), (286, .plain, F_i_PutN), (290, .plain, F_i_Hmac)]
def F_i_BlockOf : Fun1 := funV P_i_BlockOf (fun d => (T_i_BlockOf d.1 d.2.1 d.2.2.1).val) O_i_BlockOf
def Q_i_BlockOf : Loops := fun _ _ => .fail
theorem e_i_BlockOf : ∀ d, pcall ⟨lookT tys, ctrOf C_i_BlockOf, kindOf C_i_BlockOf, 3, 4⟩ 0 Q_i_BlockOf Tryz.f341 .plain (mkA P_i_BlockOf d) = (T_i_BlockOf d.1 d.2.1 d.2.2.1).run fun r => some (O_i_BlockOf r) := fun d => by kernel_rfl
theorem fn_i_BlockOf : Fn Tryz.prog 341 .plain F_i_BlockOf := fn_of (cfgOk_of mixed tys_ok (show FnsOk Tryz.prog C_i_BlockOf from ⟨fn_i_within, fn_i_joined, fn_i_PutN, fn_i_Hmac, trivial⟩)) Tryz.func341 (by kernel_rfl) (by kernel_rfl) (fun cx b hp hb => all_of (by kernel_rfl : loopsOf (Tryz.f341.body.getD .skip) = []) trivial b hb) (R := (YBs)) (T := fun (d : aden P_i_BlockOf) => T_i_BlockOf d.1 d.2.1 d.2.2.1) e_i_BlockOf
def P_i_Stream : List (Bool × List Sh) := [(false, [.sl 5 [.int .u8]]), (false, [.sl 5 [.int .u8]]), (false, [.int .i64])]
def O_i_Stream (r : (YBs)) : List RV × List RV := ([rv (false, [.sl 5 [.int .u8]]) r], [])
def C_i_Stream : Fns := [(109, .plain, F_i_within), (341, .plain, F_i_BlockOf), (111, .plain, F_i_clone)]
def F_i_Stream : Fun1 := funV P_i_Stream (fun d => (T_i_Stream d.1 d.2.1 d.2.2.1).val) O_i_Stream
def K_i_Stream_5 : Sk := ⟨[(0, .v false [(.sl 5 [.int .u8], .ro)]), (1, .v false [(.sl 5 [.int .u8], .ro)]), (2, .v false [(.int .i64, .nil)]), (7, .v false [(.sl 5 [.int .u8], (.own 6000000))]), (8, .v false [(.int .i64, .nil)])], [], [6000000]⟩
def X_i_Stream_5 : List (Ex × Sk) := [((.exit 0), ⟨[(2, .v false [(.int .i64, .nil)]), (7, .v false [(.sl 5 [.int .u8], (.own 6000000))])], [], [6000000]⟩)]
def Q_i_Stream : Loops := fun i st => cond (Nat.beq i 5) (lam K_i_Stream_5 6000000 X_i_Stream_5 B_i_Stream_5 st) <| .fail
theorem lp_i_Stream_5 : ∀ d, bod ⟨lookT tys, ctrOf C_i_Stream, kindOf C_i_Stream, 3, 4⟩ 0 Tryz.f329.ntmps Q_i_Stream (nthLoop Tryz.f329 0) K_i_Stream_5 6000000 X_i_Stream_5 d = B_i_Stream_5 d := fun d => by kernel_rfl
theorem lo_i_Stream_5 (cx : Cx) (hp : cx.pin.length ≤ 0) : LoopOk Tryz.prog cx Tryz.f329.ntmps Q_i_Stream (nthLoop Tryz.f329 0) := loop_of (cfgOk_of mixed tys_ok (show FnsOk Tryz.prog C_i_Stream from ⟨fn_i_within, fn_i_BlockOf, fn_i_clone, trivial⟩)) hp (all_of (by kernel_rfl : loopsOf (nthLoop Tryz.f329 0) = []) trivial) (by kernel_rfl) lp_i_Stream_5
theorem e_i_Stream : ∀ d, pcall ⟨lookT tys, ctrOf C_i_Stream, kindOf C_i_Stream, 3, 4⟩ 0 Q_i_Stream Tryz.f329 .plain (mkA P_i_Stream d) = (T_i_Stream d.1 d.2.1 d.2.2.1).run fun r => some (O_i_Stream r) := fun d => by kernel_rfl
theorem fn_i_Stream : Fn Tryz.prog 329 .plain F_i_Stream := fn_of (cfgOk_of mixed tys_ok (show FnsOk Tryz.prog C_i_Stream from ⟨fn_i_within, fn_i_BlockOf, fn_i_clone, trivial⟩)) Tryz.func329 (by kernel_rfl) (by kernel_rfl) (fun cx b hp hb => all_of (by kernel_rfl : loopsOf (Tryz.f329.body.getD .skip) = [nthLoop Tryz.f329 0]) ⟨lo_i_Stream_5 cx hp, trivial⟩ b hb) (R := (YBs)) (T := fun (d : aden P_i_Stream) => T_i_Stream d.1 d.2.1 d.2.2.1) e_i_Stream
def P_i_Mix : List (Bool × List Sh) := [(false, [.sl 5 [.int .u8]]), (false, [.sl 5 [.int .u8]]), (false, [.sl 5 [.int .u8]])]
def O_i_Mix (r : (YBs)) : List RV × List RV := ([rv (false, [.sl 5 [.int .u8]]) r], [])
def C_i_Mix : Fns := [(329, .plain, F_i_Stream)]
def F_i_Mix : Fun1 := funV P_i_Mix (fun d => (T_i_Mix d.1 d.2.1 d.2.2.1).val) O_i_Mix
def K_i_Mix_5 : Sk := ⟨[(2, .v false [(.sl 5 [.int .u8], .ro)]), (7, .v false [(.sl 5 [.int .u8], (.own 6000000))]), (28, .v false [(.sl 5 [.int .u8], (.own 6000001))]), (29, .v false [(.int .i64, .nil)]), (30, .v false [(.int .i64, .nil)])], [], [6000000, 6000001]⟩
def X_i_Mix_5 : List (Ex × Sk) := [((.exit 0), ⟨[(7, .v false [(.sl 5 [.int .u8], (.own 6000000))])], [], [6000000]⟩)]
def Q_i_Mix : Loops := fun i st => cond (Nat.beq i 5) (lam K_i_Mix_5 6000000 X_i_Mix_5 B_i_Mix_5 st) <| .fail
theorem lp_i_Mix_5 : ∀ d, bod ⟨lookT tys, ctrOf C_i_Mix, kindOf C_i_Mix, 3, 4⟩ 0 Tryz.f312.ntmps Q_i_Mix (nthLoop Tryz.f312 0) K_i_Mix_5 6000000 X_i_Mix_5 d = B_i_Mix_5 d := fun d => by kernel_rfl
theorem lo_i_Mix_5 (cx : Cx) (hp : cx.pin.length ≤ 0) : LoopOk Tryz.prog cx Tryz.f312.ntmps Q_i_Mix (nthLoop Tryz.f312 0) := loop_of (cfgOk_of mixed tys_ok (show FnsOk Tryz.prog C_i_Mix from ⟨fn_i_Stream, trivial⟩)) hp (all_of (by kernel_rfl : loopsOf (nthLoop Tryz.f312 0) = []) trivial) (by kernel_rfl) lp_i_Mix_5
theorem e_i_Mix : ∀ d, pcall ⟨lookT tys, ctrOf C_i_Mix, kindOf C_i_Mix, 3, 4⟩ 0 Q_i_Mix Tryz.f312 .plain (mkA P_i_Mix d) = (T_i_Mix d.1 d.2.1 d.2.2.1).run fun r => some (O_i_Mix r) := fun d => by kernel_rfl
theorem fn_i_Mix : Fn Tryz.prog 312 .plain F_i_Mix := fn_of (cfgOk_of mixed tys_ok (show FnsOk Tryz.prog C_i_Mix from ⟨fn_i_Stream, trivial⟩)) Tryz.func312 (by kernel_rfl) (by kernel_rfl) (fun cx b hp hb => all_of (by kernel_rfl : loopsOf (Tryz.f312.body.getD .skip) = [nthLoop Tryz.f312 0]) ⟨lo_i_Mix_5 cx hp, trivial⟩ b hb) (R := (YBs)) (T := fun (d : aden P_i_Mix) => T_i_Mix d.1 d.2.1 d.2.2.1) e_i_Mix
def P_i_TagInput : List (Bool × List Sh) := [(false, [.int .i64]), (true, h_9)]
def O_i_TagInput (r : (YBs)) : List RV × List RV := ([rv (false, [.sl 5 [.int .u8]]) r], [])
def C_i_TagInput : Fns := [(273, .plain, F_i_isRole), (171, .plain, F_i_Sealed), (168, .plain, F_i_FrameOk), (278, .plain, F_i_HeadOf), (277, .plain, F_i_joined)]
def F_i_TagInput : Fun1 := funV P_i_TagInput (fun d => (T_i_TagInput d.1 d.2.1).val) O_i_TagInput
def Q_i_TagInput : Loops := fun _ _ => .fail
theorem e_i_TagInput : ∀ d, pcall ⟨lookT tys, ctrOf C_i_TagInput, kindOf C_i_TagInput, 3, 4⟩ 0 Q_i_TagInput Tryz.f214 .plain (mkA P_i_TagInput d) = (T_i_TagInput d.1 d.2.1).run fun r => some (O_i_TagInput r) := fun d => by kernel_rfl
theorem fn_i_TagInput : Fn Tryz.prog 214 .plain F_i_TagInput := fn_of (cfgOk_of mixed tys_ok (show FnsOk Tryz.prog C_i_TagInput from ⟨fn_i_isRole, fn_i_Sealed, fn_i_FrameOk, fn_i_HeadOf, fn_i_joined, trivial⟩)) Tryz.func214 (by kernel_rfl) (by kernel_rfl) (fun cx b hp hb => all_of (by kernel_rfl : loopsOf (Tryz.f214.body.getD .skip) = []) trivial b hb) (R := (YBs)) (T := fun (d : aden P_i_TagInput) => T_i_TagInput d.1 d.2.1) e_i_TagInput
def P_i_Tag : List (Bool × List Sh) := [(false, [.sl 5 [.int .u8]]), (false, [.sl 5 [.int .u8]])]
def O_i_Tag (r : (YBs)) : List RV × List RV := ([rv (false, [.sl 5 [.int .u8]]) r], [])
def C_i_Tag : Fns := [(290, .plain, F_i_Hmac), (111, .plain, F_i_clone)]
def F_i_Tag : Fun1 := funV P_i_Tag (fun d => (T_i_Tag d.1 d.2.1).val) O_i_Tag
def Q_i_Tag : Loops := fun _ _ => .fail
theorem e_i_Tag : ∀ d, pcall ⟨lookT tys, ctrOf C_i_Tag, kindOf C_i_Tag, 3, 4⟩ 0 Q_i_Tag Tryz.f313 .plain (mkA P_i_Tag d) = (T_i_Tag d.1 d.2.1).run fun r => some (O_i_Tag r) := fun d => by kernel_rfl
theorem fn_i_Tag : Fn Tryz.prog 313 .plain F_i_Tag := fn_of (cfgOk_of mixed tys_ok (show FnsOk Tryz.prog C_i_Tag from ⟨fn_i_Hmac, fn_i_clone, trivial⟩)) Tryz.func313 (by kernel_rfl) (by kernel_rfl) (fun cx b hp hb => all_of (by kernel_rfl : loopsOf (Tryz.f313.body.getD .skip) = []) trivial b hb) (R := (YBs)) (T := fun (d : aden P_i_Tag) => T_i_Tag d.1 d.2.1) e_i_Tag
def P_i_Seal : List (Bool × List Sh) := [(false, [.sl 5 [.int .u8]]), (false, [.int .i64]), (false, [.sl 5 [.int .u8]]), (false, [.int .i64]), (false, [.int .i64]), (false, [.int .i64]), (false, [.sl 5 [.int .u8]])]
def O_i_Seal (r : (YFrame) × (Bool × Unit)) : List RV × List RV := ([rv (true, h_9) r.1, rv (false, [.bool]) r.2], [])
def C_i_Seal : Fns := [(111, .plain, F_i_clone), (273, .plain, F_i_isRole), (171, .plain, F_i_Sealed), (168, .plain, F_i_FrameOk), (278, .plain, F_i_HeadOf), (312, .plain, F_i_Mix), (214, .plain, F_i_TagInput), (313, .plain, F_i_Tag)]
def F_i_Seal : Fun1 := funV P_i_Seal (fun d => (T_i_Seal d.1 d.2.1 d.2.2.1 d.2.2.2.1 d.2.2.2.2.1 d.2.2.2.2.2.1 d.2.2.2.2.2.2.1).val) O_i_Seal
def Q_i_Seal : Loops := fun _ _ => .fail
theorem e_i_Seal : ∀ d, pcall ⟨lookT tys, ctrOf C_i_Seal, kindOf C_i_Seal, 3, 4⟩ 0 Q_i_Seal Tryz.f276 .plain (mkA P_i_Seal d) = (T_i_Seal d.1 d.2.1 d.2.2.1 d.2.2.2.1 d.2.2.2.2.1 d.2.2.2.2.2.1 d.2.2.2.2.2.2.1).run fun r => some (O_i_Seal r) := fun d => by kernel_rfl
theorem fn_i_Seal : Fn Tryz.prog 276 .plain F_i_Seal := fn_of (cfgOk_of mixed tys_ok (show FnsOk Tryz.prog C_i_Seal from ⟨fn_i_clone, fn_i_isRole, fn_i_Sealed, fn_i_FrameOk, fn_i_HeadOf, fn_i_Mix, fn_i_TagInput, fn_i_Tag, trivial⟩)) Tryz.func276 (by kernel_rfl) (by kernel_rfl) (fun cx b hp hb => all_of (by kernel_rfl : loopsOf (Tryz.f276.body.getD .skip) = []) trivial b hb) (R := (YFrame) × (Bool × Unit)) (T := fun (d : aden P_i_Seal) => T_i_Seal d.1 d.2.1 d.2.2.1 d.2.2.2.1 d.2.2.2.2.1 d.2.2.2.2.2.1 d.2.2.2.2.2.2.1) e_i_Seal
def P_i_EpSeal : List (Bool × List Sh) := [(true, h_5), (false, [.int .i64]), (false, [.sl 5 [.int .u8]]), (false, [.int .i64]), (false, [.sl 5 [.int .u8]])]
def O_i_EpSeal (r : (YEp) × (YFrame) × (YI)) : List RV × List RV := ([rv (true, h_5) r.1, rv (true, h_9) r.2.1, rv (false, [.int .i64]) r.2.2], [])
def C_i_EpSeal : Fns := [(271, .plain, F_i_copyEp), (274, .plain, F_i_EpOk), (276, .plain, F_i_Seal)]
def F_i_EpSeal : Fun1 := funV P_i_EpSeal (fun d => (T_i_EpSeal d.1 d.2.1 d.2.2.1 d.2.2.2.1 d.2.2.2.2.1).val) O_i_EpSeal
def Q_i_EpSeal : Loops := fun _ _ => .fail
theorem e_i_EpSeal : ∀ d, pcall ⟨lookT tys, ctrOf C_i_EpSeal, kindOf C_i_EpSeal, 3, 4⟩ 0 Q_i_EpSeal Tryz.f212 .plain (mkA P_i_EpSeal d) = (T_i_EpSeal d.1 d.2.1 d.2.2.1 d.2.2.2.1 d.2.2.2.2.1).run fun r => some (O_i_EpSeal r) := fun d => by kernel_rfl
theorem fn_i_EpSeal : Fn Tryz.prog 212 .plain F_i_EpSeal := fn_of (cfgOk_of mixed tys_ok (show FnsOk Tryz.prog C_i_EpSeal from ⟨fn_i_copyEp, fn_i_EpOk, fn_i_Seal, trivial⟩)) Tryz.func212 (by kernel_rfl) (by kernel_rfl) (fun cx b hp hb => all_of (by kernel_rfl : loopsOf (Tryz.f212.body.getD .skip) = []) trivial b hb) (R := (YEp) × (YFrame) × (YI)) (T := fun (d : aden P_i_EpSeal) => T_i_EpSeal d.1 d.2.1 d.2.2.1 d.2.2.2.1 d.2.2.2.2.1) e_i_EpSeal
def P_i_ChanSeal : List (Bool × List Sh) := [(true, h_11), (false, [.int .i64]), (false, [.sl 5 [.int .u8]])]
def O_i_ChanSeal (r : (YChan) × (YFrame) × (YI)) : List RV × List RV := ([rv (true, h_11) r.1, rv (true, h_9) r.2.1, rv (false, [.int .i64]) r.2.2], [])
def C_i_ChanSeal : Fns := [(204, .plain, F_i_copyChan), (211, .plain, F_i_ChanOk), (212, .plain, F_i_EpSeal)]
def F_i_ChanSeal : Fun1 := funV P_i_ChanSeal (fun d => (T_i_ChanSeal d.1 d.2.1 d.2.2.1).val) O_i_ChanSeal
def Q_i_ChanSeal : Loops := fun _ _ => .fail
theorem e_i_ChanSeal : ∀ d, pcall ⟨lookT tys, ctrOf C_i_ChanSeal, kindOf C_i_ChanSeal, 3, 4⟩ 0 Q_i_ChanSeal Tryz.f110 .plain (mkA P_i_ChanSeal d) = (T_i_ChanSeal d.1 d.2.1 d.2.2.1).run fun r => some (O_i_ChanSeal r) := fun d => by kernel_rfl
theorem fn_i_ChanSeal : Fn Tryz.prog 110 .plain F_i_ChanSeal := fn_of (cfgOk_of mixed tys_ok (show FnsOk Tryz.prog C_i_ChanSeal from ⟨fn_i_copyChan, fn_i_ChanOk, fn_i_EpSeal, trivial⟩)) Tryz.func110 (by kernel_rfl) (by kernel_rfl) (fun cx b hp hb => all_of (by kernel_rfl : loopsOf (Tryz.f110.body.getD .skip) = []) trivial b hb) (R := (YChan) × (YFrame) × (YI)) (T := fun (d : aden P_i_ChanSeal) => T_i_ChanSeal d.1 d.2.1 d.2.2.1) e_i_ChanSeal
def P_i_Made : List (Bool × List Sh) := [(false, [.sl 5 [.int .u8]]), (false, [.sl 5 [.int .u8]])]
def O_i_Made (r : (YNote)) : List RV × List RV := ([rv (true, h_8) r], [])
def C_i_Made : Fns := [(111, .plain, F_i_clone)]
def F_i_Made : Fun1 := funV P_i_Made (fun d => (T_i_Made d.1 d.2.1).val) O_i_Made
def Q_i_Made : Loops := fun _ _ => .fail
theorem e_i_Made : ∀ d, pcall ⟨lookT tys, ctrOf C_i_Made, kindOf C_i_Made, 3, 4⟩ 0 Q_i_Made Tryz.f213 .plain (mkA P_i_Made d) = (T_i_Made d.1 d.2.1).run fun r => some (O_i_Made r) := fun d => by kernel_rfl
theorem fn_i_Made : Fn Tryz.prog 213 .plain F_i_Made := fn_of (cfgOk_of mixed tys_ok (show FnsOk Tryz.prog C_i_Made from ⟨fn_i_clone, trivial⟩)) Tryz.func213 (by kernel_rfl) (by kernel_rfl) (fun cx b hp hb => all_of (by kernel_rfl : loopsOf (Tryz.f213.body.getD .skip) = []) trivial b hb) (R := (YNote)) (T := fun (d : aden P_i_Made) => T_i_Made d.1 d.2.1) e_i_Made
def P_i_madeBy : List (Bool × List Sh) := [(true, h_11), (true, h_9)]
def O_i_madeBy (r : (YNote)) : List RV × List RV := ([rv (true, h_8) r], [])
def C_i_madeBy : Fns := [(214, .plain, F_i_TagInput), (213, .plain, F_i_Made)]
def F_i_madeBy : Fun1 := funV P_i_madeBy (fun d => (T_i_madeBy d.1 d.2.1).val) O_i_madeBy
def Q_i_madeBy : Loops := fun _ _ => .fail
theorem e_i_madeBy : ∀ d, pcall ⟨lookT tys, ctrOf C_i_madeBy, kindOf C_i_madeBy, 3, 4⟩ 0 Q_i_madeBy Tryz.f112 .plain (mkA P_i_madeBy d) = (T_i_madeBy d.1 d.2.1).run fun r => some (O_i_madeBy r) := fun d => by kernel_rfl
theorem fn_i_madeBy : Fn Tryz.prog 112 .plain F_i_madeBy := fn_of (cfgOk_of mixed tys_ok (show FnsOk Tryz.prog C_i_madeBy from ⟨fn_i_TagInput, fn_i_Made, trivial⟩)) Tryz.func112 (by kernel_rfl) (by kernel_rfl) (fun cx b hp hb => all_of (by kernel_rfl : loopsOf (Tryz.f112.body.getD .skip) = []) trivial b hb) (R := (YNote)) (T := fun (d : aden P_i_madeBy) => T_i_madeBy d.1 d.2.1) e_i_madeBy
def P_i_SessSend : List (Bool × List Sh) := [(true, h_13), (false, [.sl 5 [.int .u8]])]
def O_i_SessSend (r : (YSess) × ((List YOut) × Unit) × ((List YNote) × Unit) × (YI)) : List RV × List RV := ([rv (true, h_13) r.1, rv (false, [.sl 175 h_10]) r.2.1, rv (false, [.sl 139 h_8]) r.2.2.1, rv (false, [.int .i64]) r.2.2.2], [])
def C_i_SessSend : Fns := [(123, .plain, F_i_copySess), (124, .plain, F_i_SessOk), (110, .plain, F_i_ChanSeal), (111, .plain, F_i_clone), (112, .plain, F_i_madeBy)]
def F_i_SessSend : Fun1 := funV P_i_SessSend (fun d => (T_i_SessSend d.1 d.2.1).val) O_i_SessSend
def Q_i_SessSend : Loops := fun _ _ => .fail
theorem e_i_SessSend : ∀ d, pcall ⟨lookT tys, ctrOf C_i_SessSend, kindOf C_i_SessSend, 3, 4⟩ 0 Q_i_SessSend Tryz.f38 .plain (mkA P_i_SessSend d) = (T_i_SessSend d.1 d.2.1).run fun r => some (O_i_SessSend r) := fun d => by kernel_rfl
theorem fn_i_SessSend : Fn Tryz.prog 38 .plain F_i_SessSend := fn_of (cfgOk_of mixed tys_ok (show FnsOk Tryz.prog C_i_SessSend from ⟨fn_i_copySess, fn_i_SessOk, fn_i_ChanSeal, fn_i_clone, fn_i_madeBy, trivial⟩)) Tryz.func38 (by kernel_rfl) (by kernel_rfl) (fun cx b hp hb => all_of (by kernel_rfl : loopsOf (Tryz.f38.body.getD .skip) = []) trivial b hb) (R := (YSess) × ((List YOut) × Unit) × ((List YNote) × Unit) × (YI)) (T := fun (d : aden P_i_SessSend) => T_i_SessSend d.1 d.2.1) e_i_SessSend
def P_l_eqByteS : List (Bool × List Sh) := [(false, [.sl 5 [.int .u8]]), (false, [.sl 5 [.int .u8]])]
def O_l_eqByteS (r : (Bool × Unit)) : List RV × List RV := ([rv (false, [.bool]) r], [])
def C_l_eqByteS : Fns := []
def F_l_eqByteS : Fun1 := funV P_l_eqByteS (fun d => (T_l_eqByteS d.1 d.2.1).val) O_l_eqByteS
def K_l_eqByteS_4 : Sk := ⟨[(0, .v false [(.sl 5 [.int .u8], .ro)]), (1, .v false [(.sl 5 [.int .u8], .ro)]), (5, .v false [(.int .i64, .nil)])], [], []⟩
def X_l_eqByteS_4 : List (Ex × Sk) := [(.ret, ⟨[(4, .v false [(.bool, .nil)])], [], []⟩), ((.exit 0), ⟨[], [], []⟩)]
def Q_l_eqByteS : Loops := fun i st => cond (Nat.beq i 4) (lam K_l_eqByteS_4 5000000 X_l_eqByteS_4 B_l_eqByteS_4 st) <| .fail
theorem lp_l_eqByteS_4 : ∀ d, bod ⟨lookT tys, ctrOf C_l_eqByteS, kindOf C_l_eqByteS, 3, 4⟩ 0 Tryz.f29.ntmps Q_l_eqByteS (nthLoop Tryz.f29 0) K_l_eqByteS_4 5000000 X_l_eqByteS_4 d = B_l_eqByteS_4 d := fun d => by kernel_rfl
theorem lo_l_eqByteS_4 (cx : Cx) (hp : cx.pin.length ≤ 0) : LoopOk Tryz.prog cx Tryz.f29.ntmps Q_l_eqByteS (nthLoop Tryz.f29 0) := loop_of (cfgOk_of mixed tys_ok (show FnsOk Tryz.prog C_l_eqByteS from trivial)) hp (all_of (by kernel_rfl : loopsOf (nthLoop Tryz.f29 0) = []) trivial) (by kernel_rfl) lp_l_eqByteS_4
theorem e_l_eqByteS : ∀ d, pcall ⟨lookT tys, ctrOf C_l_eqByteS, kindOf C_l_eqByteS, 3, 4⟩ 0 Q_l_eqByteS Tryz.f29 .plain (mkA P_l_eqByteS d) = (T_l_eqByteS d.1 d.2.1).run fun r => some (O_l_eqByteS r) := fun d => by kernel_rfl
theorem fn_l_eqByteS : Fn Tryz.prog 29 .plain F_l_eqByteS := fn_of (cfgOk_of mixed tys_ok (show FnsOk Tryz.prog C_l_eqByteS from trivial)) Tryz.func29 (by kernel_rfl) (by kernel_rfl) (fun cx b hp hb => all_of (by kernel_rfl : loopsOf (Tryz.f29.body.getD .skip) = [nthLoop Tryz.f29 0]) ⟨lo_l_eqByteS_4 cx hp, trivial⟩ b hb) (R := (Bool × Unit)) (T := fun (d : aden P_l_eqByteS) => T_l_eqByteS d.1 d.2.1) e_l_eqByteS
def P_l_eqIntS : List (Bool × List Sh) := [(false, [.sl 3 [.int .i64]]), (false, [.sl 3 [.int .i64]])]
def O_l_eqIntS (r : (Bool × Unit)) : List RV × List RV := ([rv (false, [.bool]) r], [])
def C_l_eqIntS : Fns := []
def F_l_eqIntS : Fun1 := funV P_l_eqIntS (fun d => (T_l_eqIntS d.1 d.2.1).val) O_l_eqIntS
def K_l_eqIntS_4 : Sk := ⟨[(0, .v false [(.sl 3 [.int .i64], .ro)]), (1, .v false [(.sl 3 [.int .i64], .ro)]), (5, .v false [(.int .i64, .nil)])], [], []⟩
def X_l_eqIntS_4 : List (Ex × Sk) := [(.ret, ⟨[(4, .v false [(.bool, .nil)])], [], []⟩), ((.exit 0), ⟨[], [], []⟩)]
def Q_l_eqIntS : Loops := fun i st => cond (Nat.beq i 4) (lam K_l_eqIntS_4 5000000 X_l_eqIntS_4 B_l_eqIntS_4 st) <| .fail
theorem lp_l_eqIntS_4 : ∀ d, bod ⟨lookT tys, ctrOf C_l_eqIntS, kindOf C_l_eqIntS, 3, 4⟩ 0 Tryz.f314.ntmps Q_l_eqIntS (nthLoop Tryz.f314 0) K_l_eqIntS_4 5000000 X_l_eqIntS_4 d = B_l_eqIntS_4 d := fun d => by kernel_rfl
theorem lo_l_eqIntS_4 (cx : Cx) (hp : cx.pin.length ≤ 0) : LoopOk Tryz.prog cx Tryz.f314.ntmps Q_l_eqIntS (nthLoop Tryz.f314 0) := loop_of (cfgOk_of mixed tys_ok (show FnsOk Tryz.prog C_l_eqIntS from trivial)) hp (all_of (by kernel_rfl : loopsOf (nthLoop Tryz.f314 0) = []) trivial) (by kernel_rfl) lp_l_eqIntS_4
theorem e_l_eqIntS : ∀ d, pcall ⟨lookT tys, ctrOf C_l_eqIntS, kindOf C_l_eqIntS, 3, 4⟩ 0 Q_l_eqIntS Tryz.f314 .plain (mkA P_l_eqIntS d) = (T_l_eqIntS d.1 d.2.1).run fun r => some (O_l_eqIntS r) := fun d => by kernel_rfl
theorem fn_l_eqIntS : Fn Tryz.prog 314 .plain F_l_eqIntS := fn_of (cfgOk_of mixed tys_ok (show FnsOk Tryz.prog C_l_eqIntS from trivial)) Tryz.func314 (by kernel_rfl) (by kernel_rfl) (fun cx b hp hb => all_of (by kernel_rfl : loopsOf (Tryz.f314.body.getD .skip) = [nthLoop Tryz.f314 0]) ⟨lo_l_eqIntS_4 cx hp, trivial⟩ b hb) (R := (Bool × Unit)) (T := fun (d : aden P_l_eqIntS) => T_l_eqIntS d.1 d.2.1) e_l_eqIntS
def P_l_eqWin : List (Bool × List Sh) := [(true, [.int .i64, .sl 3 [.int .i64]]), (true, [.int .i64, .sl 3 [.int .i64]])]
def O_l_eqWin (r : (Bool × Unit)) : List RV × List RV := ([rv (false, [.bool]) r], [])
def C_l_eqWin : Fns := [(314, .plain, F_l_eqIntS)]
def F_l_eqWin : Fun1 := funV P_l_eqWin (fun d => (T_l_eqWin d.1 d.2.1).val) O_l_eqWin
def Q_l_eqWin : Loops := fun _ _ => .fail
theorem e_l_eqWin : ∀ d, pcall ⟨lookT tys, ctrOf C_l_eqWin, kindOf C_l_eqWin, 3, 4⟩ 0 Q_l_eqWin Tryz.f279 .plain (mkA P_l_eqWin d) = (T_l_eqWin d.1 d.2.1).run fun r => some (O_l_eqWin r) := fun d => by kernel_rfl
theorem fn_l_eqWin : Fn Tryz.prog 279 .plain F_l_eqWin := fn_of (cfgOk_of mixed tys_ok (show FnsOk Tryz.prog C_l_eqWin from ⟨fn_l_eqIntS, trivial⟩)) Tryz.func279 (by kernel_rfl) (by kernel_rfl) (fun cx b hp hb => all_of (by kernel_rfl : loopsOf (Tryz.f279.body.getD .skip) = []) trivial b hb) (R := (Bool × Unit)) (T := fun (d : aden P_l_eqWin) => T_l_eqWin d.1 d.2.1) e_l_eqWin
def P_l_eqEp : List (Bool × List Sh) := [(true, h_5), (true, h_5)]
def O_l_eqEp (r : (Bool × Unit)) : List RV × List RV := ([rv (false, [.bool]) r], [])
def C_l_eqEp : Fns := [(29, .plain, F_l_eqByteS), (279, .plain, F_l_eqWin)]
def F_l_eqEp : Fun1 := funV P_l_eqEp (fun d => (T_l_eqEp d.1 d.2.1).val) O_l_eqEp
def Q_l_eqEp : Loops := fun _ _ => .fail
theorem e_l_eqEp : ∀ d, pcall ⟨lookT tys, ctrOf C_l_eqEp, kindOf C_l_eqEp, 3, 4⟩ 0 Q_l_eqEp Tryz.f215 .plain (mkA P_l_eqEp d) = (T_l_eqEp d.1 d.2.1).run fun r => some (O_l_eqEp r) := fun d => by kernel_rfl
theorem fn_l_eqEp : Fn Tryz.prog 215 .plain F_l_eqEp := fn_of (cfgOk_of mixed tys_ok (show FnsOk Tryz.prog C_l_eqEp from ⟨fn_l_eqByteS, fn_l_eqWin, trivial⟩)) Tryz.func215 (by kernel_rfl) (by kernel_rfl) (fun cx b hp hb => all_of (by kernel_rfl : loopsOf (Tryz.f215.body.getD .skip) = []) trivial b hb) (R := (Bool × Unit)) (T := fun (d : aden P_l_eqEp) => T_l_eqEp d.1 d.2.1) e_l_eqEp
def P_l_eqChan : List (Bool × List Sh) := [(true, h_11), (true, h_11)]
def O_l_eqChan (r : (Bool × Unit)) : List RV × List RV := ([rv (false, [.bool]) r], [])
def C_l_eqChan : Fns := [(29, .plain, F_l_eqByteS), (215, .plain, F_l_eqEp)]
def F_l_eqChan : Fun1 := funV P_l_eqChan (fun d => (T_l_eqChan d.1 d.2.1).val) O_l_eqChan
def Q_l_eqChan : Loops := fun _ _ => .fail
theorem e_l_eqChan : ∀ d, pcall ⟨lookT tys, ctrOf C_l_eqChan, kindOf C_l_eqChan, 3, 4⟩ 0 Q_l_eqChan Tryz.f114 .plain (mkA P_l_eqChan d) = (T_l_eqChan d.1 d.2.1).run fun r => some (O_l_eqChan r) := fun d => by kernel_rfl
theorem fn_l_eqChan : Fn Tryz.prog 114 .plain F_l_eqChan := fn_of (cfgOk_of mixed tys_ok (show FnsOk Tryz.prog C_l_eqChan from ⟨fn_l_eqByteS, fn_l_eqEp, trivial⟩)) Tryz.func114 (by kernel_rfl) (by kernel_rfl) (fun cx b hp hb => all_of (by kernel_rfl : loopsOf (Tryz.f114.body.getD .skip) = []) trivial b hb) (R := (Bool × Unit)) (T := fun (d : aden P_l_eqChan) => T_l_eqChan d.1 d.2.1) e_l_eqChan
def P_l_eqAddr : List (Bool × List Sh) := [(true, [.int .i64, .int .i64]), (true, [.int .i64, .int .i64])]
def O_l_eqAddr (r : (Bool × Unit)) : List RV × List RV := ([rv (false, [.bool]) r], [])
def C_l_eqAddr : Fns := []
def F_l_eqAddr : Fun1 := funV P_l_eqAddr (fun d => (T_l_eqAddr d.1 d.2.1).val) O_l_eqAddr
def Q_l_eqAddr : Loops := fun _ _ => .fail
theorem e_l_eqAddr : ∀ d, pcall ⟨lookT tys, ctrOf C_l_eqAddr, kindOf C_l_eqAddr, 3, 4⟩ 0 Q_l_eqAddr Tryz.f113 .plain (mkA P_l_eqAddr d) = (T_l_eqAddr d.1 d.2.1).run fun r => some (O_l_eqAddr r) := fun d => by kernel_rfl
theorem fn_l_eqAddr : Fn Tryz.prog 113 .plain F_l_eqAddr := fn_of (cfgOk_of mixed tys_ok (show FnsOk Tryz.prog C_l_eqAddr from trivial)) Tryz.func113 (by kernel_rfl) (by kernel_rfl) (fun cx b hp hb => all_of (by kernel_rfl : loopsOf (Tryz.f113.body.getD .skip) = []) trivial b hb) (R := (Bool × Unit)) (T := fun (d : aden P_l_eqAddr) => T_l_eqAddr d.1 d.2.1) e_l_eqAddr
def P_l_eqCand : List (Bool × List Sh) := [(true, h_4), (true, h_4)]
def O_l_eqCand (r : (Bool × Unit)) : List RV × List RV := ([rv (false, [.bool]) r], [])
def C_l_eqCand : Fns := [(113, .plain, F_l_eqAddr), (29, .plain, F_l_eqByteS)]
def F_l_eqCand : Fun1 := funV P_l_eqCand (fun d => (T_l_eqCand d.1 d.2.1).val) O_l_eqCand
def Q_l_eqCand : Loops := fun _ _ => .fail
theorem e_l_eqCand : ∀ d, pcall ⟨lookT tys, ctrOf C_l_eqCand, kindOf C_l_eqCand, 3, 4⟩ 0 Q_l_eqCand Tryz.f285 .plain (mkA P_l_eqCand d) = (T_l_eqCand d.1 d.2.1).run fun r => some (O_l_eqCand r) := fun d => by kernel_rfl
theorem fn_l_eqCand : Fn Tryz.prog 285 .plain F_l_eqCand := fn_of (cfgOk_of mixed tys_ok (show FnsOk Tryz.prog C_l_eqCand from ⟨fn_l_eqAddr, fn_l_eqByteS, trivial⟩)) Tryz.func285 (by kernel_rfl) (by kernel_rfl) (fun cx b hp hb => all_of (by kernel_rfl : loopsOf (Tryz.f285.body.getD .skip) = []) trivial b hb) (R := (Bool × Unit)) (T := fun (d : aden P_l_eqCand) => T_l_eqCand d.1 d.2.1) e_l_eqCand
def P_l_eqCandS : List (Bool × List Sh) := [(false, [.sl 274 h_4]), (false, [.sl 274 h_4])]
def O_l_eqCandS (r : (Bool × Unit)) : List RV × List RV := ([rv (false, [.bool]) r], [])
def C_l_eqCandS : Fns := [(285, .plain, F_l_eqCand)]
def F_l_eqCandS : Fun1 := funV P_l_eqCandS (fun d => (T_l_eqCandS d.1 d.2.1).val) O_l_eqCandS
def K_l_eqCandS_4 : Sk := ⟨[(0, .v false [(.sl 274 h_4, .ro)]), (1, .v false [(.sl 274 h_4, .ro)]), (5, .v false [(.int .i64, .nil)])], [], []⟩
def X_l_eqCandS_4 : List (Ex × Sk) := [(.ret, ⟨[(4, .v false [(.bool, .nil)])], [], []⟩), ((.exit 0), ⟨[], [], []⟩)]
def Q_l_eqCandS : Loops := fun i st => cond (Nat.beq i 4) (lam K_l_eqCandS_4 5000000 X_l_eqCandS_4 B_l_eqCandS_4 st) <| .fail
theorem lp_l_eqCandS_4 : ∀ d, bod ⟨lookT tys, ctrOf C_l_eqCandS, kindOf C_l_eqCandS, 3, 4⟩ 0 Tryz.f225.ntmps Q_l_eqCandS (nthLoop Tryz.f225 0) K_l_eqCandS_4 5000000 X_l_eqCandS_4 d = B_l_eqCandS_4 d := fun d => by kernel_rfl
theorem lo_l_eqCandS_4 (cx : Cx) (hp : cx.pin.length ≤ 0) : LoopOk Tryz.prog cx Tryz.f225.ntmps Q_l_eqCandS (nthLoop Tryz.f225 0) := loop_of (cfgOk_of mixed tys_ok (show FnsOk Tryz.prog C_l_eqCandS from ⟨fn_l_eqCand, trivial⟩)) hp (all_of (by kernel_rfl : loopsOf (nthLoop Tryz.f225 0) = []) trivial) (by kernel_rfl) lp_l_eqCandS_4
theorem e_l_eqCandS : ∀ d, pcall ⟨lookT tys, ctrOf C_l_eqCandS, kindOf C_l_eqCandS, 3, 4⟩ 0 Q_l_eqCandS Tryz.f225 .plain (mkA P_l_eqCandS d) = (T_l_eqCandS d.1 d.2.1).run fun r => some (O_l_eqCandS r) := fun d => by kernel_rfl
theorem fn_l_eqCandS : Fn Tryz.prog 225 .plain F_l_eqCandS := fn_of (cfgOk_of mixed tys_ok (show FnsOk Tryz.prog C_l_eqCandS from ⟨fn_l_eqCand, trivial⟩)) Tryz.func225 (by kernel_rfl) (by kernel_rfl) (fun cx b hp hb => all_of (by kernel_rfl : loopsOf (Tryz.f225.body.getD .skip) = [nthLoop Tryz.f225 0]) ⟨lo_l_eqCandS_4 cx hp, trivial⟩ b hb) (R := (Bool × Unit)) (T := fun (d : aden P_l_eqCandS) => T_l_eqCandS d.1 d.2.1) e_l_eqCandS
def P_l_eqPaths : List (Bool × List Sh) := [(true, h_7), (true, h_7)]
def O_l_eqPaths (r : (Bool × Unit)) : List RV × List RV := ([rv (false, [.bool]) r], [])
def C_l_eqPaths : Fns := [(113, .plain, F_l_eqAddr), (225, .plain, F_l_eqCandS)]
def F_l_eqPaths : Fun1 := funV P_l_eqPaths (fun d => (T_l_eqPaths d.1 d.2.1).val) O_l_eqPaths
def Q_l_eqPaths : Loops := fun _ _ => .fail
theorem e_l_eqPaths : ∀ d, pcall ⟨lookT tys, ctrOf C_l_eqPaths, kindOf C_l_eqPaths, 3, 4⟩ 0 Q_l_eqPaths Tryz.f125 .plain (mkA P_l_eqPaths d) = (T_l_eqPaths d.1 d.2.1).run fun r => some (O_l_eqPaths r) := fun d => by kernel_rfl
theorem fn_l_eqPaths : Fn Tryz.prog 125 .plain F_l_eqPaths := fn_of (cfgOk_of mixed tys_ok (show FnsOk Tryz.prog C_l_eqPaths from ⟨fn_l_eqAddr, fn_l_eqCandS, trivial⟩)) Tryz.func125 (by kernel_rfl) (by kernel_rfl) (fun cx b hp hb => all_of (by kernel_rfl : loopsOf (Tryz.f125.body.getD .skip) = []) trivial b hb) (R := (Bool × Unit)) (T := fun (d : aden P_l_eqPaths) => T_l_eqPaths d.1 d.2.1) e_l_eqPaths
def P_l_eqSess : List (Bool × List Sh) := [(true, h_13), (true, h_13)]
def O_l_eqSess (r : (Bool × Unit)) : List RV × List RV := ([rv (false, [.bool]) r], [])
def C_l_eqSess : Fns := [(29, .plain, F_l_eqByteS), (114, .plain, F_l_eqChan), (125, .plain, F_l_eqPaths)]
def F_l_eqSess : Fun1 := funV P_l_eqSess (fun d => (T_l_eqSess d.1 d.2.1).val) O_l_eqSess
def Q_l_eqSess : Loops := fun _ _ => .fail
theorem e_l_eqSess : ∀ d, pcall ⟨lookT tys, ctrOf C_l_eqSess, kindOf C_l_eqSess, 3, 4⟩ 0 Q_l_eqSess Tryz.f39 .plain (mkA P_l_eqSess d) = (T_l_eqSess d.1 d.2.1).run fun r => some (O_l_eqSess r) := fun d => by kernel_rfl
theorem fn_l_eqSess : Fn Tryz.prog 39 .plain F_l_eqSess := fn_of (cfgOk_of mixed tys_ok (show FnsOk Tryz.prog C_l_eqSess from ⟨fn_l_eqByteS, fn_l_eqChan, fn_l_eqPaths, trivial⟩)) Tryz.func39 (by kernel_rfl) (by kernel_rfl) (fun cx b hp hb => all_of (by kernel_rfl : loopsOf (Tryz.f39.body.getD .skip) = []) trivial b hb) (R := (Bool × Unit)) (T := fun (d : aden P_l_eqSess) => T_l_eqSess d.1 d.2.1) e_l_eqSess
def P_l_eqFrame : List (Bool × List Sh) := [(true, h_9), (true, h_9)]
def O_l_eqFrame (r : (Bool × Unit)) : List RV × List RV := ([rv (false, [.bool]) r], [])
def C_l_eqFrame : Fns := [(29, .plain, F_l_eqByteS)]
def F_l_eqFrame : Fun1 := funV P_l_eqFrame (fun d => (T_l_eqFrame d.1 d.2.1).val) O_l_eqFrame
def Q_l_eqFrame : Loops := fun _ _ => .fail
theorem e_l_eqFrame : ∀ d, pcall ⟨lookT tys, ctrOf C_l_eqFrame, kindOf C_l_eqFrame, 3, 4⟩ 0 Q_l_eqFrame Tryz.f57 .plain (mkA P_l_eqFrame d) = (T_l_eqFrame d.1 d.2.1).run fun r => some (O_l_eqFrame r) := fun d => by kernel_rfl
theorem fn_l_eqFrame : Fn Tryz.prog 57 .plain F_l_eqFrame := fn_of (cfgOk_of mixed tys_ok (show FnsOk Tryz.prog C_l_eqFrame from ⟨fn_l_eqByteS, trivial⟩)) Tryz.func57 (by kernel_rfl) (by kernel_rfl) (fun cx b hp hb => all_of (by kernel_rfl : loopsOf (Tryz.f57.body.getD .skip) = []) trivial b hb) (R := (Bool × Unit)) (T := fun (d : aden P_l_eqFrame) => T_l_eqFrame d.1 d.2.1) e_l_eqFrame
def P_l_eqOut : List (Bool × List Sh) := [(true, h_10), (true, h_10)]
def O_l_eqOut (r : (Bool × Unit)) : List RV × List RV := ([rv (false, [.bool]) r], [])
def C_l_eqOut : Fns := [(113, .plain, F_l_eqAddr), (57, .plain, F_l_eqFrame)]
def F_l_eqOut : Fun1 := funV P_l_eqOut (fun d => (T_l_eqOut d.1 d.2.1).val) O_l_eqOut
def Q_l_eqOut : Loops := fun _ _ => .fail
theorem e_l_eqOut : ∀ d, pcall ⟨lookT tys, ctrOf C_l_eqOut, kindOf C_l_eqOut, 3, 4⟩ 0 Q_l_eqOut Tryz.f126 .plain (mkA P_l_eqOut d) = (T_l_eqOut d.1 d.2.1).run fun r => some (O_l_eqOut r) := fun d => by kernel_rfl
theorem fn_l_eqOut : Fn Tryz.prog 126 .plain F_l_eqOut := fn_of (cfgOk_of mixed tys_ok (show FnsOk Tryz.prog C_l_eqOut from ⟨fn_l_eqAddr, fn_l_eqFrame, trivial⟩)) Tryz.func126 (by kernel_rfl) (by kernel_rfl) (fun cx b hp hb => all_of (by kernel_rfl : loopsOf (Tryz.f126.body.getD .skip) = []) trivial b hb) (R := (Bool × Unit)) (T := fun (d : aden P_l_eqOut) => T_l_eqOut d.1 d.2.1) e_l_eqOut
def P_l_eqOutS : List (Bool × List Sh) := [(false, [.sl 175 h_10]), (false, [.sl 175 h_10])]
def O_l_eqOutS (r : (Bool × Unit)) : List RV × List RV := ([rv (false, [.bool]) r], [])
def C_l_eqOutS : Fns := [(126, .plain, F_l_eqOut)]
def F_l_eqOutS : Fun1 := funV P_l_eqOutS (fun d => (T_l_eqOutS d.1 d.2.1).val) O_l_eqOutS
def K_l_eqOutS_4 : Sk := ⟨[(0, .v false [(.sl 175 h_10, .ro)]), (1, .v false [(.sl 175 h_10, .ro)]), (5, .v false [(.int .i64, .nil)])], [], []⟩
def X_l_eqOutS_4 : List (Ex × Sk) := [(.ret, ⟨[(4, .v false [(.bool, .nil)])], [], []⟩), ((.exit 0), ⟨[], [], []⟩)]
def Q_l_eqOutS : Loops := fun i st => cond (Nat.beq i 4) (lam K_l_eqOutS_4 5000000 X_l_eqOutS_4 B_l_eqOutS_4 st) <| .fail
theorem lp_l_eqOutS_4 : ∀ d, bod ⟨lookT tys, ctrOf C_l_eqOutS, kindOf C_l_eqOutS, 3, 4⟩ 0 Tryz.f40.ntmps Q_l_eqOutS (nthLoop Tryz.f40 0) K_l_eqOutS_4 5000000 X_l_eqOutS_4 d = B_l_eqOutS_4 d := fun d => by kernel_rfl
theorem lo_l_eqOutS_4 (cx : Cx) (hp : cx.pin.length ≤ 0) : LoopOk Tryz.prog cx Tryz.f40.ntmps Q_l_eqOutS (nthLoop Tryz.f40 0) := loop_of (cfgOk_of mixed tys_ok (show FnsOk Tryz.prog C_l_eqOutS from ⟨fn_l_eqOut, trivial⟩)) hp (all_of (by kernel_rfl : loopsOf (nthLoop Tryz.f40 0) = []) trivial) (by kernel_rfl) lp_l_eqOutS_4
theorem e_l_eqOutS : ∀ d, pcall ⟨lookT tys, ctrOf C_l_eqOutS, kindOf C_l_eqOutS, 3, 4⟩ 0 Q_l_eqOutS Tryz.f40 .plain (mkA P_l_eqOutS d) = (T_l_eqOutS d.1 d.2.1).run fun r => some (O_l_eqOutS r) := fun d => by kernel_rfl
theorem fn_l_eqOutS : Fn Tryz.prog 40 .plain F_l_eqOutS := fn_of (cfgOk_of mixed tys_ok (show FnsOk Tryz.prog C_l_eqOutS from ⟨fn_l_eqOut, trivial⟩)) Tryz.func40 (by kernel_rfl) (by kernel_rfl) (fun cx b hp hb => all_of (by kernel_rfl : loopsOf (Tryz.f40.body.getD .skip) = [nthLoop Tryz.f40 0]) ⟨lo_l_eqOutS_4 cx hp, trivial⟩ b hb) (R := (Bool × Unit)) (T := fun (d : aden P_l_eqOutS) => T_l_eqOutS d.1 d.2.1) e_l_eqOutS
def P_l_eqNote : List (Bool × List Sh) := [(true, h_8), (true, h_8)]
def O_l_eqNote (r : (Bool × Unit)) : List RV × List RV := ([rv (false, [.bool]) r], [])
def C_l_eqNote : Fns := [(29, .plain, F_l_eqByteS), (113, .plain, F_l_eqAddr)]
def F_l_eqNote : Fun1 := funV P_l_eqNote (fun d => (T_l_eqNote d.1 d.2.1).val) O_l_eqNote
def Q_l_eqNote : Loops := fun _ _ => .fail
theorem e_l_eqNote : ∀ d, pcall ⟨lookT tys, ctrOf C_l_eqNote, kindOf C_l_eqNote, 3, 4⟩ 0 Q_l_eqNote Tryz.f86 .plain (mkA P_l_eqNote d) = (T_l_eqNote d.1 d.2.1).run fun r => some (O_l_eqNote r) := fun d => by kernel_rfl
theorem fn_l_eqNote : Fn Tryz.prog 86 .plain F_l_eqNote := fn_of (cfgOk_of mixed tys_ok (show FnsOk Tryz.prog C_l_eqNote from ⟨fn_l_eqByteS, fn_l_eqAddr, trivial⟩)) Tryz.func86 (by kernel_rfl) (by kernel_rfl) (fun cx b hp hb => all_of (by kernel_rfl : loopsOf (Tryz.f86.body.getD .skip) = []) trivial b hb) (R := (Bool × Unit)) (T := fun (d : aden P_l_eqNote) => T_l_eqNote d.1 d.2.1) e_l_eqNote
def P_l_eqNoteS : List (Bool × List Sh) := [(false, [.sl 139 h_8]), (false, [.sl 139 h_8])]
def O_l_eqNoteS (r : (Bool × Unit)) : List RV × List RV := ([rv (false, [.bool]) r], [])
def C_l_eqNoteS : Fns := [(86, .plain, F_l_eqNote)]
def F_l_eqNoteS : Fun1 := funV P_l_eqNoteS (fun d => (T_l_eqNoteS d.1 d.2.1).val) O_l_eqNoteS
def K_l_eqNoteS_4 : Sk := ⟨[(0, .v false [(.sl 139 h_8, .ro)]), (1, .v false [(.sl 139 h_8, .ro)]), (5, .v false [(.int .i64, .nil)])], [], []⟩
def X_l_eqNoteS_4 : List (Ex × Sk) := [(.ret, ⟨[(4, .v false [(.bool, .nil)])], [], []⟩), ((.exit 0), ⟨[], [], []⟩)]
def Q_l_eqNoteS : Loops := fun i st => cond (Nat.beq i 4) (lam K_l_eqNoteS_4 5000000 X_l_eqNoteS_4 B_l_eqNoteS_4 st) <| .fail
theorem lp_l_eqNoteS_4 : ∀ d, bod ⟨lookT tys, ctrOf C_l_eqNoteS, kindOf C_l_eqNoteS, 3, 4⟩ 0 Tryz.f17.ntmps Q_l_eqNoteS (nthLoop Tryz.f17 0) K_l_eqNoteS_4 5000000 X_l_eqNoteS_4 d = B_l_eqNoteS_4 d := fun d => by kernel_rfl
theorem lo_l_eqNoteS_4 (cx : Cx) (hp : cx.pin.length ≤ 0) : LoopOk Tryz.prog cx Tryz.f17.ntmps Q_l_eqNoteS (nthLoop Tryz.f17 0) := loop_of (cfgOk_of mixed tys_ok (show FnsOk Tryz.prog C_l_eqNoteS from ⟨fn_l_eqNote, trivial⟩)) hp (all_of (by kernel_rfl : loopsOf (nthLoop Tryz.f17 0) = []) trivial) (by kernel_rfl) lp_l_eqNoteS_4
theorem e_l_eqNoteS : ∀ d, pcall ⟨lookT tys, ctrOf C_l_eqNoteS, kindOf C_l_eqNoteS, 3, 4⟩ 0 Q_l_eqNoteS Tryz.f17 .plain (mkA P_l_eqNoteS d) = (T_l_eqNoteS d.1 d.2.1).run fun r => some (O_l_eqNoteS r) := fun d => by kernel_rfl
theorem fn_l_eqNoteS : Fn Tryz.prog 17 .plain F_l_eqNoteS := fn_of (cfgOk_of mixed tys_ok (show FnsOk Tryz.prog C_l_eqNoteS from ⟨fn_l_eqNote, trivial⟩)) Tryz.func17 (by kernel_rfl) (by kernel_rfl) (fun cx b hp hb => all_of (by kernel_rfl : loopsOf (Tryz.f17.body.getD .skip) = [nthLoop Tryz.f17 0]) ⟨lo_l_eqNoteS_4 cx hp, trivial⟩ b hb) (R := (Bool × Unit)) (T := fun (d : aden P_l_eqNoteS) => T_l_eqNoteS d.1 d.2.1) e_l_eqNoteS
def P_l_markByteS : List (Bool × List Sh) := [(false, [.sl 5 [.int .u8]]), (false, [.int .i64])]
def O_l_markByteS (r : (YI) × (YBs)) : List RV × List RV := ([rv (false, [.int .i64]) r.1], [rv (false, [.sl 5 [.int .u8]]) r.2])
def C_l_markByteS : Fns := []
def F_l_markByteS : Fun1 := funV P_l_markByteS (fun d => (T_l_markByteS d.1 d.2.1).val) O_l_markByteS
def K_l_markByteS_2 : Sk := ⟨[(0, .v false [(.sl 5 [.int .u8], (.own 3000000))]), (1, .v false [(.int .i64, .nil)]), (5, .v false [(.int .i64, .nil)])], [], [3000000]⟩
def X_l_markByteS_2 : List (Ex × Sk) := [((.exit 0), ⟨[(0, .v false [(.sl 5 [.int .u8], (.own 3000000))]), (1, .v false [(.int .i64, .nil)])], [], [3000000]⟩)]
def Q_l_markByteS : Loops := fun i st => cond (Nat.beq i 2) (lam K_l_markByteS_2 3000000 X_l_markByteS_2 B_l_markByteS_2 st) <| .fail
theorem lp_l_markByteS_2 : ∀ d, bod ⟨lookT tys, ctrOf C_l_markByteS, kindOf C_l_markByteS, 3, 4⟩ 1 Tryz.f31.ntmps Q_l_markByteS (nthLoop Tryz.f31 0) K_l_markByteS_2 3000000 X_l_markByteS_2 d = B_l_markByteS_2 d := fun d => by kernel_rfl
theorem lo_l_markByteS_2 (cx : Cx) (hp : cx.pin.length ≤ 1) : LoopOk Tryz.prog cx Tryz.f31.ntmps Q_l_markByteS (nthLoop Tryz.f31 0) := loop_of (cfgOk_of mixed tys_ok (show FnsOk Tryz.prog C_l_markByteS from trivial)) hp (all_of (by kernel_rfl : loopsOf (nthLoop Tryz.f31 0) = []) trivial) (by kernel_rfl) lp_l_markByteS_2
theorem e_l_markByteS : ∀ d, pcall ⟨lookT tys, ctrOf C_l_markByteS, kindOf C_l_markByteS, 3, 4⟩ 1 Q_l_markByteS Tryz.f31 (.lend [1]) (mkA P_l_markByteS d) = (T_l_markByteS d.1 d.2.1).run fun r => some (O_l_markByteS r) := fun d => by kernel_rfl
theorem fn_l_markByteS : Fn Tryz.prog 31 (.lend [1]) F_l_markByteS := fn_of (cfgOk_of mixed tys_ok (show FnsOk Tryz.prog C_l_markByteS from trivial)) Tryz.func31 (by kernel_rfl) (by kernel_rfl) (fun cx b hp hb => all_of (by kernel_rfl : loopsOf (Tryz.f31.body.getD .skip) = [nthLoop Tryz.f31 0]) ⟨lo_l_markByteS_2 cx hp, trivial⟩ b hb) (R := (YI) × (YBs)) (T := fun (d : aden P_l_markByteS) => T_l_markByteS d.1 d.2.1) e_l_markByteS
def P_l_markIntS : List (Bool × List Sh) := [(false, [.sl 3 [.int .i64]]), (false, [.int .i64])]
def O_l_markIntS (r : (YI) × ((List YI) × Unit)) : List RV × List RV := ([rv (false, [.int .i64]) r.1], [rv (false, [.sl 3 [.int .i64]]) r.2])
def C_l_markIntS : Fns := []
def F_l_markIntS : Fun1 := funV P_l_markIntS (fun d => (T_l_markIntS d.1 d.2.1).val) O_l_markIntS
def K_l_markIntS_2 : Sk := ⟨[(0, .v false [(.sl 3 [.int .i64], (.own 3000000))]), (1, .v false [(.int .i64, .nil)]), (5, .v false [(.int .i64, .nil)])], [], [3000000]⟩
def X_l_markIntS_2 : List (Ex × Sk) := [((.exit 0), ⟨[(0, .v false [(.sl 3 [.int .i64], (.own 3000000))]), (1, .v false [(.int .i64, .nil)])], [], [3000000]⟩)]
def Q_l_markIntS : Loops := fun i st => cond (Nat.beq i 2) (lam K_l_markIntS_2 3000000 X_l_markIntS_2 B_l_markIntS_2 st) <| .fail
theorem lp_l_markIntS_2 : ∀ d, bod ⟨lookT tys, ctrOf C_l_markIntS, kindOf C_l_markIntS, 3, 4⟩ 1 Tryz.f262.ntmps Q_l_markIntS (nthLoop Tryz.f262 0) K_l_markIntS_2 3000000 X_l_markIntS_2 d = B_l_markIntS_2 d := fun d => by kernel_rfl
theorem lo_l_markIntS_2 (cx : Cx) (hp : cx.pin.length ≤ 1) : LoopOk Tryz.prog cx Tryz.f262.ntmps Q_l_markIntS (nthLoop Tryz.f262 0) := loop_of (cfgOk_of mixed tys_ok (show FnsOk Tryz.prog C_l_markIntS from trivial)) hp (all_of (by kernel_rfl : loopsOf (nthLoop Tryz.f262 0) = []) trivial) (by kernel_rfl) lp_l_markIntS_2
theorem e_l_markIntS : ∀ d, pcall ⟨lookT tys, ctrOf C_l_markIntS, kindOf C_l_markIntS, 3, 4⟩ 1 Q_l_markIntS Tryz.f262 (.lend [1]) (mkA P_l_markIntS d) = (T_l_markIntS d.1 d.2.1).run fun r => some (O_l_markIntS r) := fun d => by kernel_rfl
theorem fn_l_markIntS : Fn Tryz.prog 262 (.lend [1]) F_l_markIntS := fn_of (cfgOk_of mixed tys_ok (show FnsOk Tryz.prog C_l_markIntS from trivial)) Tryz.func262 (by kernel_rfl) (by kernel_rfl) (fun cx b hp hb => all_of (by kernel_rfl : loopsOf (Tryz.f262.body.getD .skip) = [nthLoop Tryz.f262 0]) ⟨lo_l_markIntS_2 cx hp, trivial⟩ b hb) (R := (YI) × ((List YI) × Unit)) (T := fun (d : aden P_l_markIntS) => T_l_markIntS d.1 d.2.1) e_l_markIntS
def P_l_markWin : List (Bool × List Sh) := [(true, [.int .i64, .sl 3 [.int .i64]]), (false, [.int .i64])]
def O_l_markWin (r : (YI) × (YWin)) : List RV × List RV := ([rv (false, [.int .i64]) r.1], [rv (true, [.int .i64, .sl 3 [.int .i64]]) r.2])
def C_l_markWin : Fns := [(262, (.lend [1]), F_l_markIntS)]
def F_l_markWin : Fun1 := funV P_l_markWin (fun d => (T_l_markWin d.1 d.2.1).val) O_l_markWin
def Q_l_markWin : Loops := fun _ _ => .fail
theorem e_l_markWin : ∀ d, pcall ⟨lookT tys, ctrOf C_l_markWin, kindOf C_l_markWin, 3, 4⟩ 1 Q_l_markWin Tryz.f280 (.lend [1]) (mkA P_l_markWin d) = (T_l_markWin d.1 d.2.1).run fun r => some (O_l_markWin r) := fun d => by kernel_rfl
theorem fn_l_markWin : Fn Tryz.prog 280 (.lend [1]) F_l_markWin := fn_of (cfgOk_of mixed tys_ok (show FnsOk Tryz.prog C_l_markWin from ⟨fn_l_markIntS, trivial⟩)) Tryz.func280 (by kernel_rfl) (by kernel_rfl) (fun cx b hp hb => all_of (by kernel_rfl : loopsOf (Tryz.f280.body.getD .skip) = []) trivial b hb) (R := (YI) × (YWin)) (T := fun (d : aden P_l_markWin) => T_l_markWin d.1 d.2.1) e_l_markWin
def P_l_markEp : List (Bool × List Sh) := [(true, h_5), (false, [.int .i64])]
def O_l_markEp (r : (YI) × (YEp)) : List RV × List RV := ([rv (false, [.int .i64]) r.1], [rv (true, h_5) r.2])
def C_l_markEp : Fns := [(31, (.lend [1]), F_l_markByteS), (280, (.lend [1]), F_l_markWin)]
def F_l_markEp : Fun1 := funV P_l_markEp (fun d => (T_l_markEp d.1 d.2.1).val) O_l_markEp
def Q_l_markEp : Loops := fun _ _ => .fail
theorem e_l_markEp : ∀ d, pcall ⟨lookT tys, ctrOf C_l_markEp, kindOf C_l_markEp, 3, 4⟩ 1 Q_l_markEp Tryz.f216 (.lend [1]) (mkA P_l_markEp d) = (T_l_markEp d.1 d.2.1).run fun r => some (O_l_markEp r) := fun d => by kernel_rfl
theorem fn_l_markEp : Fn Tryz.prog 216 (.lend [1]) F_l_markEp := fn_of (cfgOk_of mixed tys_ok (show FnsOk Tryz.prog C_l_markEp from ⟨fn_l_markByteS, fn_l_markWin, trivial⟩)) Tryz.func216 (by kernel_rfl) (by kernel_rfl) (fun cx b hp hb => all_of (by kernel_rfl : loopsOf (Tryz.f216.body.getD .skip) = []) trivial b hb) (R := (YI) × (YEp)) (T := fun (d : aden P_l_markEp) => T_l_markEp d.1 d.2.1) e_l_markEp
def P_l_markChan : List (Bool × List Sh) := [(true, h_11), (false, [.int .i64])]
def O_l_markChan (r : (YI) × (YChan)) : List RV × List RV := ([rv (false, [.int .i64]) r.1], [rv (true, h_11) r.2])
def C_l_markChan : Fns := [(31, (.lend [1]), F_l_markByteS), (216, (.lend [1]), F_l_markEp)]
def F_l_markChan : Fun1 := funV P_l_markChan (fun d => (T_l_markChan d.1 d.2.1).val) O_l_markChan
def Q_l_markChan : Loops := fun _ _ => .fail
theorem e_l_markChan : ∀ d, pcall ⟨lookT tys, ctrOf C_l_markChan, kindOf C_l_markChan, 3, 4⟩ 1 Q_l_markChan Tryz.f116 (.lend [1]) (mkA P_l_markChan d) = (T_l_markChan d.1 d.2.1).run fun r => some (O_l_markChan r) := fun d => by kernel_rfl
theorem fn_l_markChan : Fn Tryz.prog 116 (.lend [1]) F_l_markChan := fn_of (cfgOk_of mixed tys_ok (show FnsOk Tryz.prog C_l_markChan from ⟨fn_l_markByteS, fn_l_markEp, trivial⟩)) Tryz.func116 (by kernel_rfl) (by kernel_rfl) (fun cx b hp hb => all_of (by kernel_rfl : loopsOf (Tryz.f116.body.getD .skip) = []) trivial b hb) (R := (YI) × (YChan)) (T := fun (d : aden P_l_markChan) => T_l_markChan d.1 d.2.1) e_l_markChan
def P_l_markCandS : List (Bool × List Sh) := [(false, [.sl 274 h_4]), (false, [.int .i64])]
def O_l_markCandS (r : (YI) × ((List YCand) × Unit)) : List RV × List RV := ([rv (false, [.int .i64]) r.1], [rv (false, [.sl 274 h_4]) r.2])
def C_l_markCandS : Fns := [(31, (.lend [1]), F_l_markByteS)]
def F_l_markCandS : Fun1 := funV P_l_markCandS (fun d => (T_l_markCandS d.1 d.2.1).val) O_l_markCandS
def K_l_markCandS_2 : Sk := ⟨[(0, .v false [(.sl 274 h_4, (.own 3000000))]), (1, .v false [(.int .i64, .nil)]), (5, .v false [(.int .i64, .nil)])], [], [3000000]⟩
def X_l_markCandS_2 : List (Ex × Sk) := [((.exit 0), ⟨[(0, .v false [(.sl 274 h_4, (.own 3000000))]), (1, .v false [(.int .i64, .nil)])], [], [3000000]⟩)]
def Q_l_markCandS : Loops := fun i st => cond (Nat.beq i 2) (lam K_l_markCandS_2 3000000 X_l_markCandS_2 B_l_markCandS_2 st) <| .fail
theorem lp_l_markCandS_2 : ∀ d, bod ⟨lookT tys, ctrOf C_l_markCandS, kindOf C_l_markCandS, 3, 4⟩ 1 Tryz.f226.ntmps Q_l_markCandS (nthLoop Tryz.f226 0) K_l_markCandS_2 3000000 X_l_markCandS_2 d = B_l_markCandS_2 d := fun d => by kernel_rfl
theorem lo_l_markCandS_2 (cx : Cx) (hp : cx.pin.length ≤ 1) : LoopOk Tryz.prog cx Tryz.f226.ntmps Q_l_markCandS (nthLoop Tryz.f226 0) := loop_of (cfgOk_of mixed tys_ok (show FnsOk Tryz.prog C_l_markCandS from ⟨fn_l_markByteS, trivial⟩)) hp (all_of (by kernel_rfl : loopsOf (nthLoop Tryz.f226 0) = []) trivial) (by kernel_rfl) lp_l_markCandS_2
theorem e_l_markCandS : ∀ d, pcall ⟨lookT tys, ctrOf C_l_markCandS, kindOf C_l_markCandS, 3, 4⟩ 1 Q_l_markCandS Tryz.f226 (.lend [1]) (mkA P_l_markCandS d) = (T_l_markCandS d.1 d.2.1).run fun r => some (O_l_markCandS r) := fun d => by kernel_rfl
theorem fn_l_markCandS : Fn Tryz.prog 226 (.lend [1]) F_l_markCandS := fn_of (cfgOk_of mixed tys_ok (show FnsOk Tryz.prog C_l_markCandS from ⟨fn_l_markByteS, trivial⟩)) Tryz.func226 (by kernel_rfl) (by kernel_rfl) (fun cx b hp hb => all_of (by kernel_rfl : loopsOf (Tryz.f226.body.getD .skip) = [nthLoop Tryz.f226 0]) ⟨lo_l_markCandS_2 cx hp, trivial⟩ b hb) (R := (YI) × ((List YCand) × Unit)) (T := fun (d : aden P_l_markCandS) => T_l_markCandS d.1 d.2.1) e_l_markCandS
def P_l_markPaths : List (Bool × List Sh) := [(true, h_7), (false, [.int .i64])]
def O_l_markPaths (r : (YI) × (YPaths)) : List RV × List RV := ([rv (false, [.int .i64]) r.1], [rv (true, h_7) r.2])
def C_l_markPaths : Fns := [(226, (.lend [1]), F_l_markCandS)]
def F_l_markPaths : Fun1 := funV P_l_markPaths (fun d => (T_l_markPaths d.1 d.2.1).val) O_l_markPaths
def Q_l_markPaths : Loops := fun _ _ => .fail
theorem e_l_markPaths : ∀ d, pcall ⟨lookT tys, ctrOf C_l_markPaths, kindOf C_l_markPaths, 3, 4⟩ 1 Q_l_markPaths Tryz.f127 (.lend [1]) (mkA P_l_markPaths d) = (T_l_markPaths d.1 d.2.1).run fun r => some (O_l_markPaths r) := fun d => by kernel_rfl
theorem fn_l_markPaths : Fn Tryz.prog 127 (.lend [1]) F_l_markPaths := fn_of (cfgOk_of mixed tys_ok (show FnsOk Tryz.prog C_l_markPaths from ⟨fn_l_markCandS, trivial⟩)) Tryz.func127 (by kernel_rfl) (by kernel_rfl) (fun cx b hp hb => all_of (by kernel_rfl : loopsOf (Tryz.f127.body.getD .skip) = []) trivial b hb) (R := (YI) × (YPaths)) (T := fun (d : aden P_l_markPaths) => T_l_markPaths d.1 d.2.1) e_l_markPaths
def P_l_markSess : List (Bool × List Sh) := [(true, h_13), (false, [.int .i64])]
def O_l_markSess (r : (YI) × (YSess)) : List RV × List RV := ([rv (false, [.int .i64]) r.1], [rv (true, h_13) r.2])
def C_l_markSess : Fns := [(31, (.lend [1]), F_l_markByteS), (116, (.lend [1]), F_l_markChan), (127, (.lend [1]), F_l_markPaths)]
def F_l_markSess : Fun1 := funV P_l_markSess (fun d => (T_l_markSess d.1 d.2.1).val) O_l_markSess
def Q_l_markSess : Loops := fun _ _ => .fail
theorem e_l_markSess : ∀ d, pcall ⟨lookT tys, ctrOf C_l_markSess, kindOf C_l_markSess, 3, 4⟩ 1 Q_l_markSess Tryz.f41 (.lend [1]) (mkA P_l_markSess d) = (T_l_markSess d.1 d.2.1).run fun r => some (O_l_markSess r) := fun d => by kernel_rfl
theorem fn_l_markSess : Fn Tryz.prog 41 (.lend [1]) F_l_markSess := fn_of (cfgOk_of mixed tys_ok (show FnsOk Tryz.prog C_l_markSess from ⟨fn_l_markByteS, fn_l_markChan, fn_l_markPaths, trivial⟩)) Tryz.func41 (by kernel_rfl) (by kernel_rfl) (fun cx b hp hb => all_of (by kernel_rfl : loopsOf (Tryz.f41.body.getD .skip) = []) trivial b hb) (R := (YI) × (YSess)) (T := fun (d : aden P_l_markSess) => T_l_markSess d.1 d.2.1) e_l_markSess
def P_l_markOutS : List (Bool × List Sh) := [(false, [.sl 175 h_10]), (false, [.int .i64])]
def O_l_markOutS (r : (YI) × ((List YOut) × Unit)) : List RV × List RV := ([rv (false, [.int .i64]) r.1], [rv (false, [.sl 175 h_10]) r.2])
def C_l_markOutS : Fns := [(31, (.lend [1]), F_l_markByteS)]
def F_l_markOutS : Fun1 := funV P_l_markOutS (fun d => (T_l_markOutS d.1 d.2.1).val) O_l_markOutS
def K_l_markOutS_2 : Sk := ⟨[(0, .v false [(.sl 175 h_10, (.own 3000000))]), (1, .v false [(.int .i64, .nil)]), (5, .v false [(.int .i64, .nil)])], [], [3000000]⟩
def X_l_markOutS_2 : List (Ex × Sk) := [((.exit 0), ⟨[(0, .v false [(.sl 175 h_10, (.own 3000000))]), (1, .v false [(.int .i64, .nil)])], [], [3000000]⟩)]
def Q_l_markOutS : Loops := fun i st => cond (Nat.beq i 2) (lam K_l_markOutS_2 3000000 X_l_markOutS_2 B_l_markOutS_2 st) <| .fail
theorem lp_l_markOutS_2 : ∀ d, bod ⟨lookT tys, ctrOf C_l_markOutS, kindOf C_l_markOutS, 3, 4⟩ 1 Tryz.f42.ntmps Q_l_markOutS (nthLoop Tryz.f42 0) K_l_markOutS_2 3000000 X_l_markOutS_2 d = B_l_markOutS_2 d := fun d => by kernel_rfl
theorem lo_l_markOutS_2 (cx : Cx) (hp : cx.pin.length ≤ 1) : LoopOk Tryz.prog cx Tryz.f42.ntmps Q_l_markOutS (nthLoop Tryz.f42 0) := loop_of (cfgOk_of mixed tys_ok (show FnsOk Tryz.prog C_l_markOutS from ⟨fn_l_markByteS, trivial⟩)) hp (all_of (by kernel_rfl : loopsOf (nthLoop Tryz.f42 0) = []) trivial) (by kernel_rfl) lp_l_markOutS_2
theorem e_l_markOutS : ∀ d, pcall ⟨lookT tys, ctrOf C_l_markOutS, kindOf C_l_markOutS, 3, 4⟩ 1 Q_l_markOutS Tryz.f42 (.lend [1]) (mkA P_l_markOutS d) = (T_l_markOutS d.1 d.2.1).run fun r => some (O_l_markOutS r) := fun d => by kernel_rfl
theorem fn_l_markOutS : Fn Tryz.prog 42 (.lend [1]) F_l_markOutS := fn_of (cfgOk_of mixed tys_ok (show FnsOk Tryz.prog C_l_markOutS from ⟨fn_l_markByteS, trivial⟩)) Tryz.func42 (by kernel_rfl) (by kernel_rfl) (fun cx b hp hb => all_of (by kernel_rfl : loopsOf (Tryz.f42.body.getD .skip) = [nthLoop Tryz.f42 0]) ⟨lo_l_markOutS_2 cx hp, trivial⟩ b hb) (R := (YI) × ((List YOut) × Unit)) (T := fun (d : aden P_l_markOutS) => T_l_markOutS d.1 d.2.1) e_l_markOutS
def P_l_markNoteS : List (Bool × List Sh) := [(false, [.sl 139 h_8]), (false, [.int .i64])]
def O_l_markNoteS (r : (YI) × ((List YNote) × Unit)) : List RV × List RV := ([rv (false, [.int .i64]) r.1], [rv (false, [.sl 139 h_8]) r.2])
def C_l_markNoteS : Fns := [(31, (.lend [1]), F_l_markByteS)]
def F_l_markNoteS : Fun1 := funV P_l_markNoteS (fun d => (T_l_markNoteS d.1 d.2.1).val) O_l_markNoteS
def K_l_markNoteS_2 : Sk := ⟨[(0, .v false [(.sl 139 h_8, (.own 3000000))]), (1, .v false [(.int .i64, .nil)]), (5, .v false [(.int .i64, .nil)])], [], [3000000]⟩
def X_l_markNoteS_2 : List (Ex × Sk) := [((.exit 0), ⟨[(0, .v false [(.sl 139 h_8, (.own 3000000))]), (1, .v false [(.int .i64, .nil)])], [], [3000000]⟩)]
def Q_l_markNoteS : Loops := fun i st => cond (Nat.beq i 2) (lam K_l_markNoteS_2 3000000 X_l_markNoteS_2 B_l_markNoteS_2 st) <| .fail
theorem lp_l_markNoteS_2 : ∀ d, bod ⟨lookT tys, ctrOf C_l_markNoteS, kindOf C_l_markNoteS, 3, 4⟩ 1 Tryz.f19.ntmps Q_l_markNoteS (nthLoop Tryz.f19 0) K_l_markNoteS_2 3000000 X_l_markNoteS_2 d = B_l_markNoteS_2 d := fun d => by kernel_rfl
theorem lo_l_markNoteS_2 (cx : Cx) (hp : cx.pin.length ≤ 1) : LoopOk Tryz.prog cx Tryz.f19.ntmps Q_l_markNoteS (nthLoop Tryz.f19 0) := loop_of (cfgOk_of mixed tys_ok (show FnsOk Tryz.prog C_l_markNoteS from ⟨fn_l_markByteS, trivial⟩)) hp (all_of (by kernel_rfl : loopsOf (nthLoop Tryz.f19 0) = []) trivial) (by kernel_rfl) lp_l_markNoteS_2
theorem e_l_markNoteS : ∀ d, pcall ⟨lookT tys, ctrOf C_l_markNoteS, kindOf C_l_markNoteS, 3, 4⟩ 1 Q_l_markNoteS Tryz.f19 (.lend [1]) (mkA P_l_markNoteS d) = (T_l_markNoteS d.1 d.2.1).run fun r => some (O_l_markNoteS r) := fun d => by kernel_rfl
theorem fn_l_markNoteS : Fn Tryz.prog 19 (.lend [1]) F_l_markNoteS := fn_of (cfgOk_of mixed tys_ok (show FnsOk Tryz.prog C_l_markNoteS from ⟨fn_l_markByteS, trivial⟩)) Tryz.func19 (by kernel_rfl) (by kernel_rfl) (fun cx b hp hb => all_of (by kernel_rfl : loopsOf (Tryz.f19.body.getD .skip) = [nthLoop Tryz.f19 0]) ⟨lo_l_markNoteS_2 cx hp, trivial⟩ b hb) (R := (YI) × ((List YNote) × Unit)) (T := fun (d : aden P_l_markNoteS) => T_l_markNoteS d.1 d.2.1) e_l_markNoteS
def P_l_heldByteS : List (Bool × List Sh) := [(false, [.sl 5 [.int .u8]]), (false, [.int .i64])]
def O_l_heldByteS (r : (YI)) : List RV × List RV := ([rv (false, [.int .i64]) r], [])
def C_l_heldByteS : Fns := []
def F_l_heldByteS : Fun1 := funV P_l_heldByteS (fun d => (T_l_heldByteS d.1 d.2.1).val) O_l_heldByteS
def K_l_heldByteS_2 : Sk := ⟨[(0, .v false [(.sl 5 [.int .u8], .ro)]), (1, .v false [(.int .i64, .nil)]), (5, .v false [(.int .i64, .nil)])], [], []⟩
def X_l_heldByteS_2 : List (Ex × Sk) := [(.ret, ⟨[(4, .v false [(.int .i64, .nil)])], [], []⟩), ((.exit 0), ⟨[(1, .v false [(.int .i64, .nil)])], [], []⟩)]
def Q_l_heldByteS : Loops := fun i st => cond (Nat.beq i 2) (lam K_l_heldByteS_2 3000000 X_l_heldByteS_2 B_l_heldByteS_2 st) <| .fail
theorem lp_l_heldByteS_2 : ∀ d, bod ⟨lookT tys, ctrOf C_l_heldByteS, kindOf C_l_heldByteS, 3, 4⟩ 0 Tryz.f97.ntmps Q_l_heldByteS (nthLoop Tryz.f97 0) K_l_heldByteS_2 3000000 X_l_heldByteS_2 d = B_l_heldByteS_2 d := fun d => by kernel_rfl
theorem lo_l_heldByteS_2 (cx : Cx) (hp : cx.pin.length ≤ 0) : LoopOk Tryz.prog cx Tryz.f97.ntmps Q_l_heldByteS (nthLoop Tryz.f97 0) := loop_of (cfgOk_of mixed tys_ok (show FnsOk Tryz.prog C_l_heldByteS from trivial)) hp (all_of (by kernel_rfl : loopsOf (nthLoop Tryz.f97 0) = []) trivial) (by kernel_rfl) lp_l_heldByteS_2
theorem e_l_heldByteS : ∀ d, pcall ⟨lookT tys, ctrOf C_l_heldByteS, kindOf C_l_heldByteS, 3, 4⟩ 0 Q_l_heldByteS Tryz.f97 .plain (mkA P_l_heldByteS d) = (T_l_heldByteS d.1 d.2.1).run fun r => some (O_l_heldByteS r) := fun d => by kernel_rfl
theorem fn_l_heldByteS : Fn Tryz.prog 97 .plain F_l_heldByteS := fn_of (cfgOk_of mixed tys_ok (show FnsOk Tryz.prog C_l_heldByteS from trivial)) Tryz.func97 (by kernel_rfl) (by kernel_rfl) (fun cx b hp hb => all_of (by kernel_rfl : loopsOf (Tryz.f97.body.getD .skip) = [nthLoop Tryz.f97 0]) ⟨lo_l_heldByteS_2 cx hp, trivial⟩ b hb) (R := (YI)) (T := fun (d : aden P_l_heldByteS) => T_l_heldByteS d.1 d.2.1) e_l_heldByteS
def P_l_heldIntS : List (Bool × List Sh) := [(false, [.sl 3 [.int .i64]]), (false, [.int .i64])]
def O_l_heldIntS (r : (YI)) : List RV × List RV := ([rv (false, [.int .i64]) r], [])
def C_l_heldIntS : Fns := []
def F_l_heldIntS : Fun1 := funV P_l_heldIntS (fun d => (T_l_heldIntS d.1 d.2.1).val) O_l_heldIntS
def K_l_heldIntS_2 : Sk := ⟨[(0, .v false [(.sl 3 [.int .i64], .ro)]), (1, .v false [(.int .i64, .nil)]), (5, .v false [(.int .i64, .nil)])], [], []⟩
def X_l_heldIntS_2 : List (Ex × Sk) := [(.ret, ⟨[(4, .v false [(.int .i64, .nil)])], [], []⟩), ((.exit 0), ⟨[(1, .v false [(.int .i64, .nil)])], [], []⟩)]
def Q_l_heldIntS : Loops := fun i st => cond (Nat.beq i 2) (lam K_l_heldIntS_2 3000000 X_l_heldIntS_2 B_l_heldIntS_2 st) <| .fail
theorem lp_l_heldIntS_2 : ∀ d, bod ⟨lookT tys, ctrOf C_l_heldIntS, kindOf C_l_heldIntS, 3, 4⟩ 0 Tryz.f263.ntmps Q_l_heldIntS (nthLoop Tryz.f263 0) K_l_heldIntS_2 3000000 X_l_heldIntS_2 d = B_l_heldIntS_2 d := fun d => by kernel_rfl
theorem lo_l_heldIntS_2 (cx : Cx) (hp : cx.pin.length ≤ 0) : LoopOk Tryz.prog cx Tryz.f263.ntmps Q_l_heldIntS (nthLoop Tryz.f263 0) := loop_of (cfgOk_of mixed tys_ok (show FnsOk Tryz.prog C_l_heldIntS from trivial)) hp (all_of (by kernel_rfl : loopsOf (nthLoop Tryz.f263 0) = []) trivial) (by kernel_rfl) lp_l_heldIntS_2
theorem e_l_heldIntS : ∀ d, pcall ⟨lookT tys, ctrOf C_l_heldIntS, kindOf C_l_heldIntS, 3, 4⟩ 0 Q_l_heldIntS Tryz.f263 .plain (mkA P_l_heldIntS d) = (T_l_heldIntS d.1 d.2.1).run fun r => some (O_l_heldIntS r) := fun d => by kernel_rfl
theorem fn_l_heldIntS : Fn Tryz.prog 263 .plain F_l_heldIntS := fn_of (cfgOk_of mixed tys_ok (show FnsOk Tryz.prog C_l_heldIntS from trivial)) Tryz.func263 (by kernel_rfl) (by kernel_rfl) (fun cx b hp hb => all_of (by kernel_rfl : loopsOf (Tryz.f263.body.getD .skip) = [nthLoop Tryz.f263 0]) ⟨lo_l_heldIntS_2 cx hp, trivial⟩ b hb) (R := (YI)) (T := fun (d : aden P_l_heldIntS) => T_l_heldIntS d.1 d.2.1) e_l_heldIntS
def P_l_heldWin : List (Bool × List Sh) := [(true, [.int .i64, .sl 3 [.int .i64]]), (false, [.int .i64])]
def O_l_heldWin (r : (YI)) : List RV × List RV := ([rv (false, [.int .i64]) r], [])
def C_l_heldWin : Fns := [(263, .plain, F_l_heldIntS)]
def F_l_heldWin : Fun1 := funV P_l_heldWin (fun d => (T_l_heldWin d.1 d.2.1).val) O_l_heldWin
def Q_l_heldWin : Loops := fun _ _ => .fail
theorem e_l_heldWin : ∀ d, pcall ⟨lookT tys, ctrOf C_l_heldWin, kindOf C_l_heldWin, 3, 4⟩ 0 Q_l_heldWin Tryz.f281 .plain (mkA P_l_heldWin d) = (T_l_heldWin d.1 d.2.1).run fun r => some (O_l_heldWin r) := fun d => by kernel_rfl
theorem fn_l_heldWin : Fn Tryz.prog 281 .plain F_l_heldWin := fn_of (cfgOk_of mixed tys_ok (show FnsOk Tryz.prog C_l_heldWin from ⟨fn_l_heldIntS, trivial⟩)) Tryz.func281 (by kernel_rfl) (by kernel_rfl) (fun cx b hp hb => all_of (by kernel_rfl : loopsOf (Tryz.f281.body.getD .skip) = []) trivial b hb) (R := (YI)) (T := fun (d : aden P_l_heldWin) => T_l_heldWin d.1 d.2.1) e_l_heldWin
def P_l_heldEp : List (Bool × List Sh) := [(true, h_5), (false, [.int .i64])]
def O_l_heldEp (r : (YI)) : List RV × List RV := ([rv (false, [.int .i64]) r], [])
def C_l_heldEp : Fns := [(97, .plain, F_l_heldByteS), (281, .plain, F_l_heldWin)]
def F_l_heldEp : Fun1 := funV P_l_heldEp (fun d => (T_l_heldEp d.1 d.2.1).val) O_l_heldEp
def Q_l_heldEp : Loops := fun _ _ => .fail
theorem e_l_heldEp : ∀ d, pcall ⟨lookT tys, ctrOf C_l_heldEp, kindOf C_l_heldEp, 3, 4⟩ 0 Q_l_heldEp Tryz.f217 .plain (mkA P_l_heldEp d) = (T_l_heldEp d.1 d.2.1).run fun r => some (O_l_heldEp r) := fun d => by kernel_rfl
theorem fn_l_heldEp : Fn Tryz.prog 217 .plain F_l_heldEp := fn_of (cfgOk_of mixed tys_ok (show FnsOk Tryz.prog C_l_heldEp from ⟨fn_l_heldByteS, fn_l_heldWin, trivial⟩)) Tryz.func217 (by kernel_rfl) (by kernel_rfl) (fun cx b hp hb => all_of (by kernel_rfl : loopsOf (Tryz.f217.body.getD .skip) = []) trivial b hb) (R := (YI)) (T := fun (d : aden P_l_heldEp) => T_l_heldEp d.1 d.2.1) e_l_heldEp
def P_l_heldChan : List (Bool × List Sh) := [(true, h_11), (false, [.int .i64])]
def O_l_heldChan (r : (YI)) : List RV × List RV := ([rv (false, [.int .i64]) r], [])
def C_l_heldChan : Fns := [(97, .plain, F_l_heldByteS), (217, .plain, F_l_heldEp)]
def F_l_heldChan : Fun1 := funV P_l_heldChan (fun d => (T_l_heldChan d.1 d.2.1).val) O_l_heldChan
def Q_l_heldChan : Loops := fun _ _ => .fail
theorem e_l_heldChan : ∀ d, pcall ⟨lookT tys, ctrOf C_l_heldChan, kindOf C_l_heldChan, 3, 4⟩ 0 Q_l_heldChan Tryz.f118 .plain (mkA P_l_heldChan d) = (T_l_heldChan d.1 d.2.1).run fun r => some (O_l_heldChan r) := fun d => by kernel_rfl
theorem fn_l_heldChan : Fn Tryz.prog 118 .plain F_l_heldChan := fn_of (cfgOk_of mixed tys_ok (show FnsOk Tryz.prog C_l_heldChan from ⟨fn_l_heldByteS, fn_l_heldEp, trivial⟩)) Tryz.func118 (by kernel_rfl) (by kernel_rfl) (fun cx b hp hb => all_of (by kernel_rfl : loopsOf (Tryz.f118.body.getD .skip) = []) trivial b hb) (R := (YI)) (T := fun (d : aden P_l_heldChan) => T_l_heldChan d.1 d.2.1) e_l_heldChan
def P_l_heldCandS : List (Bool × List Sh) := [(false, [.sl 274 h_4]), (false, [.int .i64])]
def O_l_heldCandS (r : (YI)) : List RV × List RV := ([rv (false, [.int .i64]) r], [])
def C_l_heldCandS : Fns := [(97, .plain, F_l_heldByteS)]
def F_l_heldCandS : Fun1 := funV P_l_heldCandS (fun d => (T_l_heldCandS d.1 d.2.1).val) O_l_heldCandS
def K_l_heldCandS_2 : Sk := ⟨[(0, .v false [(.sl 274 h_4, .ro)]), (1, .v false [(.int .i64, .nil)]), (5, .v false [(.int .i64, .nil)])], [], []⟩
def X_l_heldCandS_2 : List (Ex × Sk) := [(.ret, ⟨[(4, .v false [(.int .i64, .nil)])], [], []⟩), ((.exit 0), ⟨[(1, .v false [(.int .i64, .nil)])], [], []⟩)]
def Q_l_heldCandS : Loops := fun i st => cond (Nat.beq i 2) (lam K_l_heldCandS_2 3000000 X_l_heldCandS_2 B_l_heldCandS_2 st) <| .fail
theorem lp_l_heldCandS_2 : ∀ d, bod ⟨lookT tys, ctrOf C_l_heldCandS, kindOf C_l_heldCandS, 3, 4⟩ 0 Tryz.f227.ntmps Q_l_heldCandS (nthLoop Tryz.f227 0) K_l_heldCandS_2 3000000 X_l_heldCandS_2 d = B_l_heldCandS_2 d := fun d => by kernel_rfl
theorem lo_l_heldCandS_2 (cx : Cx) (hp : cx.pin.length ≤ 0) : LoopOk Tryz.prog cx Tryz.f227.ntmps Q_l_heldCandS (nthLoop Tryz.f227 0) := loop_of (cfgOk_of mixed tys_ok (show FnsOk Tryz.prog C_l_heldCandS from ⟨fn_l_heldByteS, trivial⟩)) hp (all_of (by kernel_rfl : loopsOf (nthLoop Tryz.f227 0) = []) trivial) (by kernel_rfl) lp_l_heldCandS_2
theorem e_l_heldCandS : ∀ d, pcall ⟨lookT tys, ctrOf C_l_heldCandS, kindOf C_l_heldCandS, 3, 4⟩ 0 Q_l_heldCandS Tryz.f227 .plain (mkA P_l_heldCandS d) = (T_l_heldCandS d.1 d.2.1).run fun r => some (O_l_heldCandS r) := fun d => by kernel_rfl
theorem fn_l_heldCandS : Fn Tryz.prog 227 .plain F_l_heldCandS := fn_of (cfgOk_of mixed tys_ok (show FnsOk Tryz.prog C_l_heldCandS from ⟨fn_l_heldByteS, trivial⟩)) Tryz.func227 (by kernel_rfl) (by kernel_rfl) (fun cx b hp hb => all_of (by kernel_rfl : loopsOf (Tryz.f227.body.getD .skip) = [nthLoop Tryz.f227 0]) ⟨lo_l_heldCandS_2 cx hp, trivial⟩ b hb) (R := (YI)) (T := fun (d : aden P_l_heldCandS) => T_l_heldCandS d.1 d.2.1) e_l_heldCandS
def P_l_heldPaths : List (Bool × List Sh) := [(true, h_7), (false, [.int .i64])]
def O_l_heldPaths (r : (YI)) : List RV × List RV := ([rv (false, [.int .i64]) r], [])
def C_l_heldPaths : Fns := [(227, .plain, F_l_heldCandS)]
def F_l_heldPaths : Fun1 := funV P_l_heldPaths (fun d => (T_l_heldPaths d.1 d.2.1).val) O_l_heldPaths
def Q_l_heldPaths : Loops := fun _ _ => .fail
theorem e_l_heldPaths : ∀ d, pcall ⟨lookT tys, ctrOf C_l_heldPaths, kindOf C_l_heldPaths, 3, 4⟩ 0 Q_l_heldPaths Tryz.f128 .plain (mkA P_l_heldPaths d) = (T_l_heldPaths d.1 d.2.1).run fun r => some (O_l_heldPaths r) := fun d => by kernel_rfl
theorem fn_l_heldPaths : Fn Tryz.prog 128 .plain F_l_heldPaths := fn_of (cfgOk_of mixed tys_ok (show FnsOk Tryz.prog C_l_heldPaths from ⟨fn_l_heldCandS, trivial⟩)) Tryz.func128 (by kernel_rfl) (by kernel_rfl) (fun cx b hp hb => all_of (by kernel_rfl : loopsOf (Tryz.f128.body.getD .skip) = []) trivial b hb) (R := (YI)) (T := fun (d : aden P_l_heldPaths) => T_l_heldPaths d.1 d.2.1) e_l_heldPaths
def P_l_heldSess : List (Bool × List Sh) := [(true, h_13), (false, [.int .i64])]
def O_l_heldSess (r : (YI)) : List RV × List RV := ([rv (false, [.int .i64]) r], [])
def C_l_heldSess : Fns := [(97, .plain, F_l_heldByteS), (118, .plain, F_l_heldChan), (128, .plain, F_l_heldPaths)]
def F_l_heldSess : Fun1 := funV P_l_heldSess (fun d => (T_l_heldSess d.1 d.2.1).val) O_l_heldSess
def Q_l_heldSess : Loops := fun _ _ => .fail
theorem e_l_heldSess : ∀ d, pcall ⟨lookT tys, ctrOf C_l_heldSess, kindOf C_l_heldSess, 3, 4⟩ 0 Q_l_heldSess Tryz.f43 .plain (mkA P_l_heldSess d) = (T_l_heldSess d.1 d.2.1).run fun r => some (O_l_heldSess r) := fun d => by kernel_rfl
theorem fn_l_heldSess : Fn Tryz.prog 43 .plain F_l_heldSess := fn_of (cfgOk_of mixed tys_ok (show FnsOk Tryz.prog C_l_heldSess from ⟨fn_l_heldByteS, fn_l_heldChan, fn_l_heldPaths, trivial⟩)) Tryz.func43 (by kernel_rfl) (by kernel_rfl) (fun cx b hp hb => all_of (by kernel_rfl : loopsOf (Tryz.f43.body.getD .skip) = []) trivial b hb) (R := (YI)) (T := fun (d : aden P_l_heldSess) => T_l_heldSess d.1 d.2.1) e_l_heldSess
def P_l_heldOutS : List (Bool × List Sh) := [(false, [.sl 175 h_10]), (false, [.int .i64])]
def O_l_heldOutS (r : (YI)) : List RV × List RV := ([rv (false, [.int .i64]) r], [])
def C_l_heldOutS : Fns := [(97, .plain, F_l_heldByteS)]
def F_l_heldOutS : Fun1 := funV P_l_heldOutS (fun d => (T_l_heldOutS d.1 d.2.1).val) O_l_heldOutS
def K_l_heldOutS_2 : Sk := ⟨[(0, .v false [(.sl 175 h_10, .ro)]), (1, .v false [(.int .i64, .nil)]), (5, .v false [(.int .i64, .nil)])], [], []⟩
def X_l_heldOutS_2 : List (Ex × Sk) := [(.ret, ⟨[(4, .v false [(.int .i64, .nil)])], [], []⟩), ((.exit 0), ⟨[(1, .v false [(.int .i64, .nil)])], [], []⟩)]
def Q_l_heldOutS : Loops := fun i st => cond (Nat.beq i 2) (lam K_l_heldOutS_2 3000000 X_l_heldOutS_2 B_l_heldOutS_2 st) <| .fail
theorem lp_l_heldOutS_2 : ∀ d, bod ⟨lookT tys, ctrOf C_l_heldOutS, kindOf C_l_heldOutS, 3, 4⟩ 0 Tryz.f44.ntmps Q_l_heldOutS (nthLoop Tryz.f44 0) K_l_heldOutS_2 3000000 X_l_heldOutS_2 d = B_l_heldOutS_2 d := fun d => by kernel_rfl
theorem lo_l_heldOutS_2 (cx : Cx) (hp : cx.pin.length ≤ 0) : LoopOk Tryz.prog cx Tryz.f44.ntmps Q_l_heldOutS (nthLoop Tryz.f44 0) := loop_of (cfgOk_of mixed tys_ok (show FnsOk Tryz.prog C_l_heldOutS from ⟨fn_l_heldByteS, trivial⟩)) hp (all_of (by kernel_rfl : loopsOf (nthLoop Tryz.f44 0) = []) trivial) (by kernel_rfl) lp_l_heldOutS_2
theorem e_l_heldOutS : ∀ d, pcall ⟨lookT tys, ctrOf C_l_heldOutS, kindOf C_l_heldOutS, 3, 4⟩ 0 Q_l_heldOutS Tryz.f44 .plain (mkA P_l_heldOutS d) = (T_l_heldOutS d.1 d.2.1).run fun r => some (O_l_heldOutS r) := fun d => by kernel_rfl
theorem fn_l_heldOutS : Fn Tryz.prog 44 .plain F_l_heldOutS := fn_of (cfgOk_of mixed tys_ok (show FnsOk Tryz.prog C_l_heldOutS from ⟨fn_l_heldByteS, trivial⟩)) Tryz.func44 (by kernel_rfl) (by kernel_rfl) (fun cx b hp hb => all_of (by kernel_rfl : loopsOf (Tryz.f44.body.getD .skip) = [nthLoop Tryz.f44 0]) ⟨lo_l_heldOutS_2 cx hp, trivial⟩ b hb) (R := (YI)) (T := fun (d : aden P_l_heldOutS) => T_l_heldOutS d.1 d.2.1) e_l_heldOutS
def P_l_heldNoteS : List (Bool × List Sh) := [(false, [.sl 139 h_8]), (false, [.int .i64])]
def O_l_heldNoteS (r : (YI)) : List RV × List RV := ([rv (false, [.int .i64]) r], [])
def C_l_heldNoteS : Fns := [(97, .plain, F_l_heldByteS)]
def F_l_heldNoteS : Fun1 := funV P_l_heldNoteS (fun d => (T_l_heldNoteS d.1 d.2.1).val) O_l_heldNoteS
def K_l_heldNoteS_2 : Sk := ⟨[(0, .v false [(.sl 139 h_8, .ro)]), (1, .v false [(.int .i64, .nil)]), (5, .v false [(.int .i64, .nil)])], [], []⟩
def X_l_heldNoteS_2 : List (Ex × Sk) := [(.ret, ⟨[(4, .v false [(.int .i64, .nil)])], [], []⟩), ((.exit 0), ⟨[(1, .v false [(.int .i64, .nil)])], [], []⟩)]
def Q_l_heldNoteS : Loops := fun i st => cond (Nat.beq i 2) (lam K_l_heldNoteS_2 3000000 X_l_heldNoteS_2 B_l_heldNoteS_2 st) <| .fail
theorem lp_l_heldNoteS_2 : ∀ d, bod ⟨lookT tys, ctrOf C_l_heldNoteS, kindOf C_l_heldNoteS, 3, 4⟩ 0 Tryz.f21.ntmps Q_l_heldNoteS (nthLoop Tryz.f21 0) K_l_heldNoteS_2 3000000 X_l_heldNoteS_2 d = B_l_heldNoteS_2 d := fun d => by kernel_rfl
theorem lo_l_heldNoteS_2 (cx : Cx) (hp : cx.pin.length ≤ 0) : LoopOk Tryz.prog cx Tryz.f21.ntmps Q_l_heldNoteS (nthLoop Tryz.f21 0) := loop_of (cfgOk_of mixed tys_ok (show FnsOk Tryz.prog C_l_heldNoteS from ⟨fn_l_heldByteS, trivial⟩)) hp (all_of (by kernel_rfl : loopsOf (nthLoop Tryz.f21 0) = []) trivial) (by kernel_rfl) lp_l_heldNoteS_2
theorem e_l_heldNoteS : ∀ d, pcall ⟨lookT tys, ctrOf C_l_heldNoteS, kindOf C_l_heldNoteS, 3, 4⟩ 0 Q_l_heldNoteS Tryz.f21 .plain (mkA P_l_heldNoteS d) = (T_l_heldNoteS d.1 d.2.1).run fun r => some (O_l_heldNoteS r) := fun d => by kernel_rfl
theorem fn_l_heldNoteS : Fn Tryz.prog 21 .plain F_l_heldNoteS := fn_of (cfgOk_of mixed tys_ok (show FnsOk Tryz.prog C_l_heldNoteS from ⟨fn_l_heldByteS, trivial⟩)) Tryz.func21 (by kernel_rfl) (by kernel_rfl) (fun cx b hp hb => all_of (by kernel_rfl : loopsOf (Tryz.f21.body.getD .skip) = [nthLoop Tryz.f21 0]) ⟨lo_l_heldNoteS_2 cx hp, trivial⟩ b hb) (R := (YI)) (T := fun (d : aden P_l_heldNoteS) => T_l_heldNoteS d.1 d.2.1) e_l_heldNoteS
def P_l_FnExactSessSend : List (Bool × List Sh) := [(true, h_12), (false, [.sl 5 [.int .u8]])]
def O_l_FnExactSessSend (r : (Bool × Unit)) : List RV × List RV := ([rv (false, [.bool]) r], [])
def C_l_FnExactSessSend : Fns := [(35, .plain, F_l_szSess), (37, .plain, F_l_toSess), (25, .plain, F_l_toByteS), (36, .plain, F_s_SessSend), (38, .plain, F_i_SessSend), (39, .plain, F_l_eqSess), (40, .plain, F_l_eqOutS), (17, .plain, F_l_eqNoteS), (29, .plain, F_l_eqByteS), (41, (.lend [1]), F_l_markSess), (31, (.lend [1]), F_l_markByteS), (42, (.lend [1]), F_l_markOutS), (19, (.lend [1]), F_l_markNoteS), (43, .plain, F_l_heldSess), (44, .plain, F_l_heldOutS), (21, .plain, F_l_heldNoteS)]
def F_l_FnExactSessSend : Fun1 := funV P_l_FnExactSessSend (fun d => (T_l_FnExactSessSend d.1 d.2.1).val) O_l_FnExactSessSend
def Q_l_FnExactSessSend : Loops := fun _ _ => .fail
theorem e_l_FnExactSessSend : ∀ d, pcall ⟨lookT tys, ctrOf C_l_FnExactSessSend, kindOf C_l_FnExactSessSend, 3, 4⟩ 0 Q_l_FnExactSessSend Tryz.f5 .plain (mkA P_l_FnExactSessSend d) = (T_l_FnExactSessSend d.1 d.2.1).run fun r => some (O_l_FnExactSessSend r) := fun d => by kernel_rfl
theorem fn_l_FnExactSessSend : Fn Tryz.prog 5 .plain F_l_FnExactSessSend := fn_of (cfgOk_of mixed tys_ok (show FnsOk Tryz.prog C_l_FnExactSessSend from ⟨fn_l_szSess, fn_l_toSess, fn_l_toByteS, fn_s_SessSend, fn_i_SessSend, fn_l_eqSess, fn_l_eqOutS, fn_l_eqNoteS, fn_l_eqByteS, fn_l_markSess, fn_l_markByteS, fn_l_markOutS, fn_l_markNoteS, fn_l_heldSess, fn_l_heldOutS, fn_l_heldNoteS, trivial⟩)) Tryz.func5 (by kernel_rfl) (by kernel_rfl) (fun cx b hp hb => all_of (by kernel_rfl : loopsOf (Tryz.f5.body.getD .skip) = []) trivial b hb) (R := (Bool × Unit)) (T := fun (d : aden P_l_FnExactSessSend) => T_l_FnExactSessSend d.1 d.2.1) e_l_FnExactSessSend
def P_s_RekeyBody : List (Bool × List Sh) := [(false, [.int .i64])]
def O_s_RekeyBody (r : (YBs)) : List RV × List RV := ([rv (false, [.sl 5 [.int .u8]]) r], [])
def C_s_RekeyBody : Fns := [(68, .plain, F_s_l1In), (245, .plain, F_s_PutN)]
def F_s_RekeyBody : Fun1 := funV P_s_RekeyBody (fun d => (T_s_RekeyBody d.1).val) O_s_RekeyBody
def Q_s_RekeyBody : Loops := fun _ _ => .fail
theorem e_s_RekeyBody : ∀ d, pcall ⟨lookT tys, ctrOf C_s_RekeyBody, kindOf C_s_RekeyBody, 3, 4⟩ 0 Q_s_RekeyBody Tryz.f228 .plain (mkA P_s_RekeyBody d) = (T_s_RekeyBody d.1).run fun r => some (O_s_RekeyBody r) := fun d => by kernel_rfl
theorem fn_s_RekeyBody : Fn Tryz.prog 228 .plain F_s_RekeyBody := fn_of (cfgOk_of mixed tys_ok (show FnsOk Tryz.prog C_s_RekeyBody from ⟨fn_s_l1In, fn_s_PutN, trivial⟩)) Tryz.func228 (by kernel_rfl) (by kernel_rfl) (fun cx b hp hb => all_of (by kernel_rfl : loopsOf (Tryz.f228.body.getD .skip) = []) trivial b hb) (R := (YBs)) (T := fun (d : aden P_s_RekeyBody) => T_s_RekeyBody d.1) e_s_RekeyBody
def P_s_Ack : List (Bool × List Sh) := [(true, h_11)]
def O_s_Ack (r : (YChan) × (YFrame) × (YI)) : List RV × List RV := ([rv (true, h_11) r.1, rv (true, h_9) r.2.1, rv (false, [.int .i64]) r.2.2], [])
def C_s_Ack : Fns := [(201, .plain, F_s_ChanOk), (196, .plain, F_s_l14Copy), (228, .plain, F_s_RekeyBody), (102, .plain, F_s_ChanSeal)]
def F_s_Ack : Fun1 := funV P_s_Ack (fun d => (T_s_Ack d.1).val) O_s_Ack
def Q_s_Ack : Loops := fun _ _ => .fail
theorem e_s_Ack : ∀ d, pcall ⟨lookT tys, ctrOf C_s_Ack, kindOf C_s_Ack, 3, 4⟩ 0 Q_s_Ack Tryz.f129 .plain (mkA P_s_Ack d) = (T_s_Ack d.1).run fun r => some (O_s_Ack r) := fun d => by kernel_rfl
theorem fn_s_Ack : Fn Tryz.prog 129 .plain F_s_Ack := fn_of (cfgOk_of mixed tys_ok (show FnsOk Tryz.prog C_s_Ack from ⟨fn_s_ChanOk, fn_s_l14Copy, fn_s_RekeyBody, fn_s_ChanSeal, trivial⟩)) Tryz.func129 (by kernel_rfl) (by kernel_rfl) (fun cx b hp hb => all_of (by kernel_rfl : loopsOf (Tryz.f129.body.getD .skip) = []) trivial b hb) (R := (YChan) × (YFrame) × (YI)) (T := fun (d : aden P_s_Ack) => T_s_Ack d.1) e_s_Ack
def P_s_SessAck : List (Bool × List Sh) := [(true, h_13)]
def O_s_SessAck (r : (YSess) × ((List YOut) × Unit) × ((List YNote) × Unit)) : List RV × List RV := ([rv (true, h_13) r.1, rv (false, [.sl 175 h_10]) r.2.1, rv (false, [.sl 139 h_8]) r.2.2], [])
def C_s_SessAck : Fns := [(120, .plain, F_s_l20Copy), (121, .plain, F_s_SessOk), (129, .plain, F_s_Ack), (103, .plain, F_s_l19Made)]
def F_s_SessAck : Fun1 := funV P_s_SessAck (fun d => (T_s_SessAck d.1).val) O_s_SessAck
def Q_s_SessAck : Loops := fun _ _ => .fail
theorem e_s_SessAck : ∀ d, pcall ⟨lookT tys, ctrOf C_s_SessAck, kindOf C_s_SessAck, 3, 4⟩ 0 Q_s_SessAck Tryz.f45 .plain (mkA P_s_SessAck d) = (T_s_SessAck d.1).run fun r => some (O_s_SessAck r) := fun d => by kernel_rfl
theorem fn_s_SessAck : Fn Tryz.prog 45 .plain F_s_SessAck := fn_of (cfgOk_of mixed tys_ok (show FnsOk Tryz.prog C_s_SessAck from ⟨fn_s_l20Copy, fn_s_SessOk, fn_s_Ack, fn_s_l19Made, trivial⟩)) Tryz.func45 (by kernel_rfl) (by kernel_rfl) (fun cx b hp hb => all_of (by kernel_rfl : loopsOf (Tryz.f45.body.getD .skip) = []) trivial b hb) (R := (YSess) × ((List YOut) × Unit) × ((List YNote) × Unit)) (T := fun (d : aden P_s_SessAck) => T_s_SessAck d.1) e_s_SessAck
def P_i_RekeyBody : List (Bool × List Sh) := [(false, [.int .i64])]
def O_i_RekeyBody (r : (YBs)) : List RV × List RV := ([rv (false, [.sl 5 [.int .u8]]) r], [])
def C_i_RekeyBody : Fns := [(109, .plain, F_i_within), (286, .plain, F_i_PutN)]
def F_i_RekeyBody : Fun1 := funV P_i_RekeyBody (fun d => (T_i_RekeyBody d.1).val) O_i_RekeyBody
def Q_i_RekeyBody : Loops := fun _ _ => .fail
theorem e_i_RekeyBody : ∀ d, pcall ⟨lookT tys, ctrOf C_i_RekeyBody, kindOf C_i_RekeyBody, 3, 4⟩ 0 Q_i_RekeyBody Tryz.f229 .plain (mkA P_i_RekeyBody d) = (T_i_RekeyBody d.1).run fun r => some (O_i_RekeyBody r) := fun d => by kernel_rfl
theorem fn_i_RekeyBody : Fn Tryz.prog 229 .plain F_i_RekeyBody := fn_of (cfgOk_of mixed tys_ok (show FnsOk Tryz.prog C_i_RekeyBody from ⟨fn_i_within, fn_i_PutN, trivial⟩)) Tryz.func229 (by kernel_rfl) (by kernel_rfl) (fun cx b hp hb => all_of (by kernel_rfl : loopsOf (Tryz.f229.body.getD .skip) = []) trivial b hb) (R := (YBs)) (T := fun (d : aden P_i_RekeyBody) => T_i_RekeyBody d.1) e_i_RekeyBody
def P_i_Ack : List (Bool × List Sh) := [(true, h_11)]
def O_i_Ack (r : (YChan) × (YFrame) × (YI)) : List RV × List RV := ([rv (true, h_11) r.1, rv (true, h_9) r.2.1, rv (false, [.int .i64]) r.2.2], [])
def C_i_Ack : Fns := [(211, .plain, F_i_ChanOk), (204, .plain, F_i_copyChan), (229, .plain, F_i_RekeyBody), (110, .plain, F_i_ChanSeal)]
def F_i_Ack : Fun1 := funV P_i_Ack (fun d => (T_i_Ack d.1).val) O_i_Ack
def Q_i_Ack : Loops := fun _ _ => .fail
theorem e_i_Ack : ∀ d, pcall ⟨lookT tys, ctrOf C_i_Ack, kindOf C_i_Ack, 3, 4⟩ 0 Q_i_Ack Tryz.f130 .plain (mkA P_i_Ack d) = (T_i_Ack d.1).run fun r => some (O_i_Ack r) := fun d => by kernel_rfl
theorem fn_i_Ack : Fn Tryz.prog 130 .plain F_i_Ack := fn_of (cfgOk_of mixed tys_ok (show FnsOk Tryz.prog C_i_Ack from ⟨fn_i_ChanOk, fn_i_copyChan, fn_i_RekeyBody, fn_i_ChanSeal, trivial⟩)) Tryz.func130 (by kernel_rfl) (by kernel_rfl) (fun cx b hp hb => all_of (by kernel_rfl : loopsOf (Tryz.f130.body.getD .skip) = []) trivial b hb) (R := (YChan) × (YFrame) × (YI)) (T := fun (d : aden P_i_Ack) => T_i_Ack d.1) e_i_Ack
def P_i_SessAck : List (Bool × List Sh) := [(true, h_13)]
def O_i_SessAck (r : (YSess) × ((List YOut) × Unit) × ((List YNote) × Unit)) : List RV × List RV := ([rv (true, h_13) r.1, rv (false, [.sl 175 h_10]) r.2.1, rv (false, [.sl 139 h_8]) r.2.2], [])
def C_i_SessAck : Fns := [(123, .plain, F_i_copySess), (124, .plain, F_i_SessOk), (130, .plain, F_i_Ack), (112, .plain, F_i_madeBy)]
def F_i_SessAck : Fun1 := funV P_i_SessAck (fun d => (T_i_SessAck d.1).val) O_i_SessAck
def Q_i_SessAck : Loops := fun _ _ => .fail
theorem e_i_SessAck : ∀ d, pcall ⟨lookT tys, ctrOf C_i_SessAck, kindOf C_i_SessAck, 3, 4⟩ 0 Q_i_SessAck Tryz.f46 .plain (mkA P_i_SessAck d) = (T_i_SessAck d.1).run fun r => some (O_i_SessAck r) := fun d => by kernel_rfl
theorem fn_i_SessAck : Fn Tryz.prog 46 .plain F_i_SessAck := fn_of (cfgOk_of mixed tys_ok (show FnsOk Tryz.prog C_i_SessAck from ⟨fn_i_copySess, fn_i_SessOk, fn_i_Ack, fn_i_madeBy, trivial⟩)) Tryz.func46 (by kernel_rfl) (by kernel_rfl) (fun cx b hp hb => all_of (by kernel_rfl : loopsOf (Tryz.f46.body.getD .skip) = []) trivial b hb) (R := (YSess) × ((List YOut) × Unit) × ((List YNote) × Unit)) (T := fun (d : aden P_i_SessAck) => T_i_SessAck d.1) e_i_SessAck
def P_l_FnExactSessAck : List (Bool × List Sh) := [(true, h_12)]
def O_l_FnExactSessAck (r : (Bool × Unit)) : List RV × List RV := ([rv (false, [.bool]) r], [])
def C_l_FnExactSessAck : Fns := [(35, .plain, F_l_szSess), (37, .plain, F_l_toSess), (45, .plain, F_s_SessAck), (46, .plain, F_i_SessAck), (39, .plain, F_l_eqSess), (40, .plain, F_l_eqOutS), (17, .plain, F_l_eqNoteS), (41, (.lend [1]), F_l_markSess), (42, (.lend [1]), F_l_markOutS), (19, (.lend [1]), F_l_markNoteS), (43, .plain, F_l_heldSess), (44, .plain, F_l_heldOutS), (21, .plain, F_l_heldNoteS)]
def F_l_FnExactSessAck : Fun1 := funV P_l_FnExactSessAck (fun d => (T_l_FnExactSessAck d.1).val) O_l_FnExactSessAck
def Q_l_FnExactSessAck : Loops := fun _ _ => .fail
theorem e_l_FnExactSessAck : ∀ d, pcall ⟨lookT tys, ctrOf C_l_FnExactSessAck, kindOf C_l_FnExactSessAck, 3, 4⟩ 0 Q_l_FnExactSessAck Tryz.f6 .plain (mkA P_l_FnExactSessAck d) = (T_l_FnExactSessAck d.1).run fun r => some (O_l_FnExactSessAck r) := fun d => by kernel_rfl
theorem fn_l_FnExactSessAck : Fn Tryz.prog 6 .plain F_l_FnExactSessAck := fn_of (cfgOk_of mixed tys_ok (show FnsOk Tryz.prog C_l_FnExactSessAck from ⟨fn_l_szSess, fn_l_toSess, fn_s_SessAck, fn_i_SessAck, fn_l_eqSess, fn_l_eqOutS, fn_l_eqNoteS, fn_l_markSess, fn_l_markOutS, fn_l_markNoteS, fn_l_heldSess, fn_l_heldOutS, fn_l_heldNoteS, trivial⟩)) Tryz.func6 (by kernel_rfl) (by kernel_rfl) (fun cx b hp hb => all_of (by kernel_rfl : loopsOf (Tryz.f6.body.getD .skip) = []) trivial b hb) (R := (Bool × Unit)) (T := fun (d : aden P_l_FnExactSessAck) => T_l_FnExactSessAck d.1) e_l_FnExactSessAck
end
end Go.Proofs.YtdlcjpjflckdlaaGreat

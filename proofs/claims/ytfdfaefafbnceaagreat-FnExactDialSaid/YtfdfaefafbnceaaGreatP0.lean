/-
  That the functions of the seat answer what the terms of text W say; nothing is assumed.
-/
import Derived.Test.YtfdfaefafbnceaaGreatW
import Derived.Test.YtfdfaefafbnceaaGreatProg
import Derived.KernelRfl
namespace Go.Proofs.YtfdfaefafbnceaaGreat
open Go.RowKit
set_option linter.unusedVariables false
set_option maxRecDepth 100000
set_option maxHeartbeats 4000000
noncomputable section
abbrev h_0 : List Sh := [.int .i64, .int .i64, .bool, .int .u8]
abbrev h_1 : List Sh := [.bool, .int .i64, .int .i64, .int .i64]
abbrev h_2 : List Sh := [.int .i64, .int .i64, .int .i64, .int .i64]
abbrev h_3 : List Sh := [.sl 3 [.int .i64], .sl 5 [.int .u8], .int .i64]
abbrev h_4 : List Sh := [.int .i64, .int .i64, .sl 5 [.int .u8], .int .i64]
abbrev h_5 : List Sh := [.int .i64, .sl 5 [.int .u8], .int .i64, .int .i64, .sl 3 [.int .i64]]
abbrev h_6 : List Sh := [.int .i64, .int .i64, .sl 194 h_4]
abbrev h_7 : List Sh := [.int .i64, .int .i64, .sl 198 h_4]
abbrev h_8 : List Sh := [.int .i64, .int .i64, .int .i64, .sl 5 [.int .u8], .sl 5 [.int .u8], .int .i64, .int .i64, .sl 5 [.int .u8], .sl 5 [.int .u8], .int .i64, .int .i64, .int .i64]
abbrev h_9 : List Sh := [.int .i64, .int .i64, .sl 5 [.int .u8], .sl 5 [.int .u8], .int .i64, .sl 5 [.int .u8], .sl 5 [.int .u8], .int .i64, .int .i64, .sl 5 [.int .u8], .sl 5 [.int .u8]]
abbrev h_10 : List Sh := [.int .i64, .sl 5 [.int .u8], .int .i64, .sl 5 [.int .u8], .int .i64, .int .i64, .sl 3 [.int .i64], .int .i64, .sl 5 [.int .u8], .int .i64, .int .i64, .sl 3 [.int .i64], .bool, .int .i64, .sl 5 [.int .u8]]
abbrev h_11 : List Sh := [.int .i64, .sl 5 [.int .u8], .sl 5 [.int .u8], .int .i64, .sl 5 [.int .u8], .int .i64, .sl 5 [.int .u8], .int .i64, .int .i64, .sl 3 [.int .i64], .int .i64, .sl 5 [.int .u8], .int .i64, .int .i64, .sl 3 [.int .i64], .bool, .int .i64, .sl 5 [.int .u8], .int .i64, .int .i64, .sl 194 h_4, .int .i64, .int .i64, .bool]
abbrev h_12 : List Sh := [.int .i64, .sl 5 [.int .u8], .sl 5 [.int .u8], .int .i64, .sl 5 [.int .u8], .int .i64, .sl 5 [.int .u8], .int .i64, .int .i64, .sl 3 [.int .i64], .int .i64, .sl 5 [.int .u8], .int .i64, .int .i64, .sl 3 [.int .i64], .bool, .int .i64, .sl 5 [.int .u8], .int .i64, .int .i64, .sl 198 h_4, .int .i64, .int .i64, .bool]
abbrev h_13 : List Sh := [.sl 25 [.sl 5 [.int .u8]], .sl 5 [.int .u8], .sl 5 [.int .u8], .int .i64, .int .i64, .sl 58 h_12, .sl 190 h_2]
abbrev h_14 : List Sh := [.int .i64, .sl 5 [.int .u8], .int .i64, .int .i64, .int .i64, .sl 5 [.int .u8], .int .i64, .int .i64, .sl 5 [.int .u8], .sl 5 [.int .u8], .int .i64, .sl 5 [.int .u8], .sl 5 [.int .u8], .int .i64, .int .i64, .sl 5 [.int .u8], .sl 5 [.int .u8], .int .i64, .sl 5 [.int .u8], .int .i64, .sl 5 [.int .u8], .int .i64, .int .i64, .sl 3 [.int .i64], .int .i64, .sl 5 [.int .u8], .int .i64, .int .i64, .sl 3 [.int .i64], .bool, .int .i64, .sl 5 [.int .u8], .bool, .int .i64, .int .i64, .int .i64, .bool, .int .i64, .int .i64, .int .i64, .int .i64]
def tys : List (Nat × Ty) := [(3, ⟨false, [.int .i64], [], false⟩),
  (4, ⟨false, [.bool], [], false⟩),
  (5, ⟨false, [.int .u8], [], false⟩),
  (9, ⟨false, [.str], [], false⟩),
  (25, ⟨false, [.sl 5 [.int .u8]], [], false⟩),
  (26, ⟨false, [.sl 3 [.int .i64]], [], false⟩),
  (28, ⟨true, [.int .i64, .sl 3 [.int .i64]], [(0, 1), (1, 1)], false⟩),
  (30, ⟨true, [.int .i64, .sl 5 [.int .u8], .int .i64, .int .i64, .sl 3 [.int .i64]], [(0, 1), (1, 1), (2, 1), (3, 2)], false⟩),
  (32, ⟨true, [.int .i64, .sl 5 [.int .u8], .int .i64, .sl 5 [.int .u8], .int .i64, .int .i64, .sl 3 [.int .i64], .int .i64, .sl 5 [.int .u8], .int .i64, .int .i64, .sl 3 [.int .i64], .bool, .int .i64, .sl 5 [.int .u8]], [(0, 1), (1, 1), (2, 5), (7, 5), (12, 1), (13, 1), (14, 1)], false⟩),
  (34, ⟨true, [.int .i64, .int .i64], [(0, 1), (1, 1)], true⟩),
  (48, ⟨true, [.int .i64, .sl 3 [.int .i64]], [(0, 1), (1, 1)], false⟩),
  (50, ⟨true, [.int .i64, .sl 5 [.int .u8], .int .i64, .int .i64, .sl 3 [.int .i64]], [(0, 1), (1, 1), (2, 1), (3, 2)], false⟩),
  (52, ⟨true, [.int .i64, .sl 5 [.int .u8], .int .i64, .sl 5 [.int .u8], .int .i64, .int .i64, .sl 3 [.int .i64], .int .i64, .sl 5 [.int .u8], .int .i64, .int .i64, .sl 3 [.int .i64], .bool, .int .i64, .sl 5 [.int .u8]], [(0, 1), (1, 1), (2, 5), (7, 5), (12, 1), (13, 1), (14, 1)], false⟩),
  (53, ⟨true, [.int .i64, .int .i64], [(0, 1), (1, 1)], true⟩),
  (69, ⟨true, [.int .i64, .int .i64, .sl 5 [.int .u8], .sl 5 [.int .u8], .int .i64, .sl 5 [.int .u8], .sl 5 [.int .u8], .int .i64, .int .i64, .sl 5 [.int .u8], .sl 5 [.int .u8]], [(0, 1), (1, 1), (2, 1), (3, 1), (4, 1), (5, 1), (6, 1), (7, 1), (8, 1), (9, 1), (10, 1)], false⟩),
  (74, ⟨true, [.int .i64, .int .i64, .sl 5 [.int .u8], .sl 5 [.int .u8], .int .i64, .sl 5 [.int .u8], .sl 5 [.int .u8], .int .i64, .int .i64, .sl 5 [.int .u8], .sl 5 [.int .u8]], [(0, 1), (1, 1), (2, 1), (3, 1), (4, 1), (5, 1), (6, 1), (7, 1), (8, 1), (9, 1), (10, 1)], false⟩),
  (82, ⟨true, [.bool, .int .i64, .int .i64, .int .i64], [(0, 1), (1, 1), (2, 1), (3, 1)], true⟩),
  (84, ⟨true, (.int .i64 :: .sl 5 [.int .u8] :: .int .i64 :: .int .i64 :: .int .i64 :: .sl 5 [.int .u8] :: .int .i64 :: .int .i64 :: .sl 5 [.int .u8] :: .sl 5 [.int .u8] :: .int .i64 :: .sl 5 [.int .u8] :: .sl 5 [.int .u8] :: .int .i64 :: .int .i64 :: .sl 5 [.int .u8] :: .sl 5 [.int .u8] :: .int .i64 :: .sl 5 [.int .u8] :: .int .i64 :: .sl 5 [.int .u8] :: .int .i64 :: .int .i64 :: .sl 3 [.int .i64] :: .int .i64 :: .sl 5 [.int .u8] :: .int .i64 :: .int .i64 :: .sl 3 [.int .i64] :: .bool :: .int .i64 :: .sl 5 [.int .u8] :: .bool :: .int .i64 :: .int .i64 :: .int .i64 :: .bool :: .int .i64 :: .int .i64 :: .int .i64 :: .int .i64 :: []), [(0, 1), (1, 1), (2, 2), (4, 1), (5, 1), (6, 11), (17, 15), (32, 4), (36, 4), (40, 1)], false⟩),
  (86, ⟨true, [.bool, .int .i64, .int .i64, .int .i64], [(0, 1), (1, 1), (2, 1), (3, 1)], true⟩),
  (88, ⟨true, (.int .i64 :: .sl 5 [.int .u8] :: .int .i64 :: .int .i64 :: .int .i64 :: .sl 5 [.int .u8] :: .int .i64 :: .int .i64 :: .sl 5 [.int .u8] :: .sl 5 [.int .u8] :: .int .i64 :: .sl 5 [.int .u8] :: .sl 5 [.int .u8] :: .int .i64 :: .int .i64 :: .sl 5 [.int .u8] :: .sl 5 [.int .u8] :: .int .i64 :: .sl 5 [.int .u8] :: .int .i64 :: .sl 5 [.int .u8] :: .int .i64 :: .int .i64 :: .sl 3 [.int .i64] :: .int .i64 :: .sl 5 [.int .u8] :: .int .i64 :: .int .i64 :: .sl 3 [.int .i64] :: .bool :: .int .i64 :: .sl 5 [.int .u8] :: .bool :: .int .i64 :: .int .i64 :: .int .i64 :: .bool :: .int .i64 :: .int .i64 :: .int .i64 :: .int .i64 :: []), [(0, 1), (1, 1), (2, 2), (4, 1), (5, 1), (6, 11), (17, 15), (32, 4), (36, 4), (40, 1)], false⟩),
  (89, ⟨false, [.sl 74 [.int .i64, .int .i64, .sl 5 [.int .u8], .sl 5 [.int .u8], .int .i64, .sl 5 [.int .u8], .sl 5 [.int .u8], .int .i64, .int .i64, .sl 5 [.int .u8], .sl 5 [.int .u8]]], [], false⟩),
  (90, ⟨false, [.sl 145 [.int .i64, .int .i64, .int .i64, .sl 5 [.int .u8], .sl 5 [.int .u8], .int .i64, .int .i64, .sl 5 [.int .u8], .sl 5 [.int .u8], .int .i64, .int .i64, .int .i64]], [], false⟩),
  (145, ⟨true, [.int .i64, .int .i64, .int .i64, .sl 5 [.int .u8], .sl 5 [.int .u8], .int .i64, .int .i64, .sl 5 [.int .u8], .sl 5 [.int .u8], .int .i64, .int .i64, .int .i64], [(0, 1), (1, 1), (2, 1), (3, 1), (4, 1), (5, 1), (6, 1), (7, 1), (8, 1), (9, 2), (11, 1)], false⟩)]
theorem tys_ok : tysB Tryz.prog tys = true := by kernel_rfl
theorem mixed : Tryz.prog.follows .mixedOrders = true := by kernel_rfl
def P_l_szByteS : List (Bool × List Sh) := [(false, [.sl 5 [.int .u8]]), (false, [.int .i64])]
def O_l_szByteS (r : (YI)) : List RV × List RV := ([rv (false, [.int .i64]) r], [])
def C_l_szByteS : Fns := []
def F_l_szByteS : Fun1 := funV P_l_szByteS (fun d => (T_l_szByteS d.1 d.2.1).val) O_l_szByteS
def Q_l_szByteS : Loops := fun _ _ => .fail
theorem e_l_szByteS : ∀ d, pcall ⟨lookT tys, ctrOf C_l_szByteS, kindOf C_l_szByteS, 3, 4⟩ 0 Q_l_szByteS Tryz.f55 .plain (mkA P_l_szByteS d) = (T_l_szByteS d.1 d.2.1).run fun r => some (O_l_szByteS r) := fun d => by kernel_rfl
theorem fn_l_szByteS : Fn Tryz.prog 55 .plain F_l_szByteS := fn_of (cfgOk_of mixed tys_ok (show FnsOk Tryz.prog C_l_szByteS from trivial)) Tryz.func55 (by kernel_rfl) (by kernel_rfl) (fun cx b hp hb => all_of (by kernel_rfl : loopsOf (Tryz.f55.body.getD .skip) = []) trivial b hb) (R := (YI)) (T := fun (d : aden P_l_szByteS) => T_l_szByteS d.1 d.2.1) e_l_szByteS
def P_l_szFrame : List (Bool × List Sh) := [(true, h_9), (false, [.int .i64])]
def O_l_szFrame (r : (YI)) : List RV × List RV := ([rv (false, [.int .i64]) r], [])
def C_l_szFrame : Fns := [(55, .plain, F_l_szByteS)]
def F_l_szFrame : Fun1 := funV P_l_szFrame (fun d => (T_l_szFrame d.1 d.2.1).val) O_l_szFrame
def Q_l_szFrame : Loops := fun _ _ => .fail
theorem e_l_szFrame : ∀ d, pcall ⟨lookT tys, ctrOf C_l_szFrame, kindOf C_l_szFrame, 3, 4⟩ 0 Q_l_szFrame Tryz.f21 .plain (mkA P_l_szFrame d) = (T_l_szFrame d.1 d.2.1).run fun r => some (O_l_szFrame r) := fun d => by kernel_rfl
theorem fn_l_szFrame : Fn Tryz.prog 21 .plain F_l_szFrame := fn_of (cfgOk_of mixed tys_ok (show FnsOk Tryz.prog C_l_szFrame from ⟨fn_l_szByteS, trivial⟩)) Tryz.func21 (by kernel_rfl) (by kernel_rfl) (fun cx b hp hb => all_of (by kernel_rfl : loopsOf (Tryz.f21.body.getD .skip) = []) trivial b hb) (R := (YI)) (T := fun (d : aden P_l_szFrame) => T_l_szFrame d.1 d.2.1) e_l_szFrame
def P_l_szIntS : List (Bool × List Sh) := [(false, [.sl 3 [.int .i64]]), (false, [.int .i64])]
def O_l_szIntS (r : (YI)) : List RV × List RV := ([rv (false, [.int .i64]) r], [])
def C_l_szIntS : Fns := []
def F_l_szIntS : Fun1 := funV P_l_szIntS (fun d => (T_l_szIntS d.1 d.2.1).val) O_l_szIntS
def Q_l_szIntS : Loops := fun _ _ => .fail
theorem e_l_szIntS : ∀ d, pcall ⟨lookT tys, ctrOf C_l_szIntS, kindOf C_l_szIntS, 3, 4⟩ 0 Q_l_szIntS Tryz.f217 .plain (mkA P_l_szIntS d) = (T_l_szIntS d.1 d.2.1).run fun r => some (O_l_szIntS r) := fun d => by kernel_rfl
theorem fn_l_szIntS : Fn Tryz.prog 217 .plain F_l_szIntS := fn_of (cfgOk_of mixed tys_ok (show FnsOk Tryz.prog C_l_szIntS from trivial)) Tryz.func217 (by kernel_rfl) (by kernel_rfl) (fun cx b hp hb => all_of (by kernel_rfl : loopsOf (Tryz.f217.body.getD .skip) = []) trivial b hb) (R := (YI)) (T := fun (d : aden P_l_szIntS) => T_l_szIntS d.1 d.2.1) e_l_szIntS
def P_l_szWin : List (Bool × List Sh) := [(true, [.int .i64, .sl 3 [.int .i64]]), (false, [.int .i64])]
def O_l_szWin (r : (YI)) : List RV × List RV := ([rv (false, [.int .i64]) r], [])
def C_l_szWin : Fns := [(217, .plain, F_l_szIntS)]
def F_l_szWin : Fun1 := funV P_l_szWin (fun d => (T_l_szWin d.1 d.2.1).val) O_l_szWin
def Q_l_szWin : Loops := fun _ _ => .fail
theorem e_l_szWin : ∀ d, pcall ⟨lookT tys, ctrOf C_l_szWin, kindOf C_l_szWin, 3, 4⟩ 0 Q_l_szWin Tryz.f188 .plain (mkA P_l_szWin d) = (T_l_szWin d.1 d.2.1).run fun r => some (O_l_szWin r) := fun d => by kernel_rfl
theorem fn_l_szWin : Fn Tryz.prog 188 .plain F_l_szWin := fn_of (cfgOk_of mixed tys_ok (show FnsOk Tryz.prog C_l_szWin from ⟨fn_l_szIntS, trivial⟩)) Tryz.func188 (by kernel_rfl) (by kernel_rfl) (fun cx b hp hb => all_of (by kernel_rfl : loopsOf (Tryz.f188.body.getD .skip) = []) trivial b hb) (R := (YI)) (T := fun (d : aden P_l_szWin) => T_l_szWin d.1 d.2.1) e_l_szWin
def P_l_szEp : List (Bool × List Sh) := [(true, h_5), (false, [.int .i64])]
def O_l_szEp (r : (YI)) : List RV × List RV := ([rv (false, [.int .i64]) r], [])
def C_l_szEp : Fns := [(55, .plain, F_l_szByteS), (188, .plain, F_l_szWin)]
def F_l_szEp : Fun1 := funV P_l_szEp (fun d => (T_l_szEp d.1 d.2.1).val) O_l_szEp
def Q_l_szEp : Loops := fun _ _ => .fail
theorem e_l_szEp : ∀ d, pcall ⟨lookT tys, ctrOf C_l_szEp, kindOf C_l_szEp, 3, 4⟩ 0 Q_l_szEp Tryz.f131 .plain (mkA P_l_szEp d) = (T_l_szEp d.1 d.2.1).run fun r => some (O_l_szEp r) := fun d => by kernel_rfl
theorem fn_l_szEp : Fn Tryz.prog 131 .plain F_l_szEp := fn_of (cfgOk_of mixed tys_ok (show FnsOk Tryz.prog C_l_szEp from ⟨fn_l_szByteS, fn_l_szWin, trivial⟩)) Tryz.func131 (by kernel_rfl) (by kernel_rfl) (fun cx b hp hb => all_of (by kernel_rfl : loopsOf (Tryz.f131.body.getD .skip) = []) trivial b hb) (R := (YI)) (T := fun (d : aden P_l_szEp) => T_l_szEp d.1 d.2.1) e_l_szEp
def P_l_szChan : List (Bool × List Sh) := [(true, h_10), (false, [.int .i64])]
def O_l_szChan (r : (YI)) : List RV × List RV := ([rv (false, [.int .i64]) r], [])
def C_l_szChan : Fns := [(55, .plain, F_l_szByteS), (131, .plain, F_l_szEp)]
def F_l_szChan : Fun1 := funV P_l_szChan (fun d => (T_l_szChan d.1 d.2.1).val) O_l_szChan
def Q_l_szChan : Loops := fun _ _ => .fail
theorem e_l_szChan : ∀ d, pcall ⟨lookT tys, ctrOf C_l_szChan, kindOf C_l_szChan, 3, 4⟩ 0 Q_l_szChan Tryz.f56 .plain (mkA P_l_szChan d) = (T_l_szChan d.1 d.2.1).run fun r => some (O_l_szChan r) := fun d => by kernel_rfl
theorem fn_l_szChan : Fn Tryz.prog 56 .plain F_l_szChan := fn_of (cfgOk_of mixed tys_ok (show FnsOk Tryz.prog C_l_szChan from ⟨fn_l_szByteS, fn_l_szEp, trivial⟩)) Tryz.func56 (by kernel_rfl) (by kernel_rfl) (fun cx b hp hb => all_of (by kernel_rfl : loopsOf (Tryz.f56.body.getD .skip) = []) trivial b hb) (R := (YI)) (T := fun (d : aden P_l_szChan) => T_l_szChan d.1 d.2.1) e_l_szChan
def P_l_szClient : List (Bool × List Sh) := [(true, h_14), (false, [.int .i64])]
def O_l_szClient (r : (YI)) : List RV × List RV := ([rv (false, [.int .i64]) r], [])
def C_l_szClient : Fns := [(55, .plain, F_l_szByteS), (21, .plain, F_l_szFrame), (56, .plain, F_l_szChan)]
def F_l_szClient : Fun1 := funV P_l_szClient (fun d => (T_l_szClient d.1 d.2.1).val) O_l_szClient
def Q_l_szClient : Loops := fun _ _ => .fail
theorem e_l_szClient : ∀ d, pcall ⟨lookT tys, ctrOf C_l_szClient, kindOf C_l_szClient, 3, 4⟩ 0 Q_l_szClient Tryz.f32 .plain (mkA P_l_szClient d) = (T_l_szClient d.1 d.2.1).run fun r => some (O_l_szClient r) := fun d => by kernel_rfl
theorem fn_l_szClient : Fn Tryz.prog 32 .plain F_l_szClient := fn_of (cfgOk_of mixed tys_ok (show FnsOk Tryz.prog C_l_szClient from ⟨fn_l_szByteS, fn_l_szFrame, fn_l_szChan, trivial⟩)) Tryz.func32 (by kernel_rfl) (by kernel_rfl) (fun cx b hp hb => all_of (by kernel_rfl : loopsOf (Tryz.f32.body.getD .skip) = []) trivial b hb) (R := (YI)) (T := fun (d : aden P_l_szClient) => T_l_szClient d.1 d.2.1) e_l_szClient
def P_l_toByteS : List (Bool × List Sh) := [(false, [.sl 5 [.int .u8]])]
def O_l_toByteS (r : (YBs)) : List RV × List RV := ([rv (false, [.sl 5 [.int .u8]]) r], [])
def C_l_toByteS : Fns := []
def F_l_toByteS : Fun1 := funV P_l_toByteS (fun d => (T_l_toByteS d.1).val) O_l_toByteS
def K_l_toByteS_3 : Sk := ⟨[(0, .v false [(.sl 5 [.int .u8], .ro)]), (3, .v false [(.sl 5 [.int .u8], (.own 4000000))]), (4, .v false [(.int .i64, .nil)])], [], [4000000]⟩
def X_l_toByteS_3 : List (Ex × Sk) := [((.exit 0), ⟨[(3, .v false [(.sl 5 [.int .u8], (.own 4000000))])], [], [4000000]⟩)]
def Q_l_toByteS : Loops := fun i st => cond (Nat.beq i 3) (lam K_l_toByteS_3 4000000 X_l_toByteS_3 B_l_toByteS_3 st) <| .fail
theorem lp_l_toByteS_3 : ∀ d, bod ⟨lookT tys, ctrOf C_l_toByteS, kindOf C_l_toByteS, 3, 4⟩ 0 Tryz.f23.ntmps Q_l_toByteS (nthLoop Tryz.f23 0) K_l_toByteS_3 4000000 X_l_toByteS_3 d = B_l_toByteS_3 d := fun d => by kernel_rfl
theorem lo_l_toByteS_3 (cx : Cx) (hp : cx.pin.length ≤ 0) : LoopOk Tryz.prog cx Tryz.f23.ntmps Q_l_toByteS (nthLoop Tryz.f23 0) := loop_of (cfgOk_of mixed tys_ok (show FnsOk Tryz.prog C_l_toByteS from trivial)) hp (all_of (by kernel_rfl : loopsOf (nthLoop Tryz.f23 0) = []) trivial) (by kernel_rfl) lp_l_toByteS_3
theorem e_l_toByteS : ∀ d, pcall ⟨lookT tys, ctrOf C_l_toByteS, kindOf C_l_toByteS, 3, 4⟩ 0 Q_l_toByteS Tryz.f23 .plain (mkA P_l_toByteS d) = (T_l_toByteS d.1).run fun r => some (O_l_toByteS r) := fun d => by kernel_rfl
theorem fn_l_toByteS : Fn Tryz.prog 23 .plain F_l_toByteS := fn_of (cfgOk_of mixed tys_ok (show FnsOk Tryz.prog C_l_toByteS from trivial)) Tryz.func23 (by kernel_rfl) (by kernel_rfl) (fun cx b hp hb => all_of (by kernel_rfl : loopsOf (Tryz.f23.body.getD .skip) = [nthLoop Tryz.f23 0]) ⟨lo_l_toByteS_3 cx hp, trivial⟩ b hb) (R := (YBs)) (T := fun (d : aden P_l_toByteS) => T_l_toByteS d.1) e_l_toByteS
def P_l_toAddr : List (Bool × List Sh) := [(true, [.int .i64, .int .i64])]
def O_l_toAddr (r : (YAddr)) : List RV × List RV := ([rv (true, [.int .i64, .int .i64]) r], [])
def C_l_toAddr : Fns := []
def F_l_toAddr : Fun1 := funV P_l_toAddr (fun d => (T_l_toAddr d.1).val) O_l_toAddr
def Q_l_toAddr : Loops := fun _ _ => .fail
theorem e_l_toAddr : ∀ d, pcall ⟨lookT tys, ctrOf C_l_toAddr, kindOf C_l_toAddr, 3, 4⟩ 0 Q_l_toAddr Tryz.f24 .plain (mkA P_l_toAddr d) = (T_l_toAddr d.1).run fun r => some (O_l_toAddr r) := fun d => by kernel_rfl
theorem fn_l_toAddr : Fn Tryz.prog 24 .plain F_l_toAddr := fn_of (cfgOk_of mixed tys_ok (show FnsOk Tryz.prog C_l_toAddr from trivial)) Tryz.func24 (by kernel_rfl) (by kernel_rfl) (fun cx b hp hb => all_of (by kernel_rfl : loopsOf (Tryz.f24.body.getD .skip) = []) trivial b hb) (R := (YAddr)) (T := fun (d : aden P_l_toAddr) => T_l_toAddr d.1) e_l_toAddr
def P_l_toFrame : List (Bool × List Sh) := [(true, h_9)]
def O_l_toFrame (r : (YFrame)) : List RV × List RV := ([rv (true, h_9) r], [])
def C_l_toFrame : Fns := [(23, .plain, F_l_toByteS)]
def F_l_toFrame : Fun1 := funV P_l_toFrame (fun d => (T_l_toFrame d.1).val) O_l_toFrame
def Q_l_toFrame : Loops := fun _ _ => .fail
theorem e_l_toFrame : ∀ d, pcall ⟨lookT tys, ctrOf C_l_toFrame, kindOf C_l_toFrame, 3, 4⟩ 0 Q_l_toFrame Tryz.f25 .plain (mkA P_l_toFrame d) = (T_l_toFrame d.1).run fun r => some (O_l_toFrame r) := fun d => by kernel_rfl
theorem fn_l_toFrame : Fn Tryz.prog 25 .plain F_l_toFrame := fn_of (cfgOk_of mixed tys_ok (show FnsOk Tryz.prog C_l_toFrame from ⟨fn_l_toByteS, trivial⟩)) Tryz.func25 (by kernel_rfl) (by kernel_rfl) (fun cx b hp hb => all_of (by kernel_rfl : loopsOf (Tryz.f25.body.getD .skip) = []) trivial b hb) (R := (YFrame)) (T := fun (d : aden P_l_toFrame) => T_l_toFrame d.1) e_l_toFrame
def P_l_toIntS : List (Bool × List Sh) := [(false, [.sl 3 [.int .i64]])]
def O_l_toIntS (r : ((List YI) × Unit)) : List RV × List RV := ([rv (false, [.sl 3 [.int .i64]]) r], [])
def C_l_toIntS : Fns := []
def F_l_toIntS : Fun1 := funV P_l_toIntS (fun d => (T_l_toIntS d.1).val) O_l_toIntS
def K_l_toIntS_3 : Sk := ⟨[(0, .v false [(.sl 3 [.int .i64], .ro)]), (3, .v false [(.sl 3 [.int .i64], (.own 4000000))]), (4, .v false [(.int .i64, .nil)])], [], [4000000]⟩
def X_l_toIntS_3 : List (Ex × Sk) := [((.exit 0), ⟨[(3, .v false [(.sl 3 [.int .i64], (.own 4000000))])], [], [4000000]⟩)]
def Q_l_toIntS : Loops := fun i st => cond (Nat.beq i 3) (lam K_l_toIntS_3 4000000 X_l_toIntS_3 B_l_toIntS_3 st) <| .fail
theorem lp_l_toIntS_3 : ∀ d, bod ⟨lookT tys, ctrOf C_l_toIntS, kindOf C_l_toIntS, 3, 4⟩ 0 Tryz.f219.ntmps Q_l_toIntS (nthLoop Tryz.f219 0) K_l_toIntS_3 4000000 X_l_toIntS_3 d = B_l_toIntS_3 d := fun d => by kernel_rfl
theorem lo_l_toIntS_3 (cx : Cx) (hp : cx.pin.length ≤ 0) : LoopOk Tryz.prog cx Tryz.f219.ntmps Q_l_toIntS (nthLoop Tryz.f219 0) := loop_of (cfgOk_of mixed tys_ok (show FnsOk Tryz.prog C_l_toIntS from trivial)) hp (all_of (by kernel_rfl : loopsOf (nthLoop Tryz.f219 0) = []) trivial) (by kernel_rfl) lp_l_toIntS_3
theorem e_l_toIntS : ∀ d, pcall ⟨lookT tys, ctrOf C_l_toIntS, kindOf C_l_toIntS, 3, 4⟩ 0 Q_l_toIntS Tryz.f219 .plain (mkA P_l_toIntS d) = (T_l_toIntS d.1).run fun r => some (O_l_toIntS r) := fun d => by kernel_rfl
theorem fn_l_toIntS : Fn Tryz.prog 219 .plain F_l_toIntS := fn_of (cfgOk_of mixed tys_ok (show FnsOk Tryz.prog C_l_toIntS from trivial)) Tryz.func219 (by kernel_rfl) (by kernel_rfl) (fun cx b hp hb => all_of (by kernel_rfl : loopsOf (Tryz.f219.body.getD .skip) = [nthLoop Tryz.f219 0]) ⟨lo_l_toIntS_3 cx hp, trivial⟩ b hb) (R := ((List YI) × Unit)) (T := fun (d : aden P_l_toIntS) => T_l_toIntS d.1) e_l_toIntS
def P_l_toWin : List (Bool × List Sh) := [(true, [.int .i64, .sl 3 [.int .i64]])]
def O_l_toWin (r : (YWin)) : List RV × List RV := ([rv (true, [.int .i64, .sl 3 [.int .i64]]) r], [])
def C_l_toWin : Fns := [(219, .plain, F_l_toIntS)]
def F_l_toWin : Fun1 := funV P_l_toWin (fun d => (T_l_toWin d.1).val) O_l_toWin
def Q_l_toWin : Loops := fun _ _ => .fail
theorem e_l_toWin : ∀ d, pcall ⟨lookT tys, ctrOf C_l_toWin, kindOf C_l_toWin, 3, 4⟩ 0 Q_l_toWin Tryz.f193 .plain (mkA P_l_toWin d) = (T_l_toWin d.1).run fun r => some (O_l_toWin r) := fun d => by kernel_rfl
theorem fn_l_toWin : Fn Tryz.prog 193 .plain F_l_toWin := fn_of (cfgOk_of mixed tys_ok (show FnsOk Tryz.prog C_l_toWin from ⟨fn_l_toIntS, trivial⟩)) Tryz.func193 (by kernel_rfl) (by kernel_rfl) (fun cx b hp hb => all_of (by kernel_rfl : loopsOf (Tryz.f193.body.getD .skip) = []) trivial b hb) (R := (YWin)) (T := fun (d : aden P_l_toWin) => T_l_toWin d.1) e_l_toWin
def P_l_toEp : List (Bool × List Sh) := [(true, h_5)]
def O_l_toEp (r : (YEp)) : List RV × List RV := ([rv (true, h_5) r], [])
def C_l_toEp : Fns := [(23, .plain, F_l_toByteS), (193, .plain, F_l_toWin)]
def F_l_toEp : Fun1 := funV P_l_toEp (fun d => (T_l_toEp d.1).val) O_l_toEp
def Q_l_toEp : Loops := fun _ _ => .fail
theorem e_l_toEp : ∀ d, pcall ⟨lookT tys, ctrOf C_l_toEp, kindOf C_l_toEp, 3, 4⟩ 0 Q_l_toEp Tryz.f135 .plain (mkA P_l_toEp d) = (T_l_toEp d.1).run fun r => some (O_l_toEp r) := fun d => by kernel_rfl
theorem fn_l_toEp : Fn Tryz.prog 135 .plain F_l_toEp := fn_of (cfgOk_of mixed tys_ok (show FnsOk Tryz.prog C_l_toEp from ⟨fn_l_toByteS, fn_l_toWin, trivial⟩)) Tryz.func135 (by kernel_rfl) (by kernel_rfl) (fun cx b hp hb => all_of (by kernel_rfl : loopsOf (Tryz.f135.body.getD .skip) = []) trivial b hb) (R := (YEp)) (T := fun (d : aden P_l_toEp) => T_l_toEp d.1) e_l_toEp
def P_l_toChan : List (Bool × List Sh) := [(true, h_10)]
def O_l_toChan (r : (YChan)) : List RV × List RV := ([rv (true, h_10) r], [])
def C_l_toChan : Fns := [(23, .plain, F_l_toByteS), (135, .plain, F_l_toEp)]
def F_l_toChan : Fun1 := funV P_l_toChan (fun d => (T_l_toChan d.1).val) O_l_toChan
def Q_l_toChan : Loops := fun _ _ => .fail
theorem e_l_toChan : ∀ d, pcall ⟨lookT tys, ctrOf C_l_toChan, kindOf C_l_toChan, 3, 4⟩ 0 Q_l_toChan Tryz.f63 .plain (mkA P_l_toChan d) = (T_l_toChan d.1).run fun r => some (O_l_toChan r) := fun d => by kernel_rfl
theorem fn_l_toChan : Fn Tryz.prog 63 .plain F_l_toChan := fn_of (cfgOk_of mixed tys_ok (show FnsOk Tryz.prog C_l_toChan from ⟨fn_l_toByteS, fn_l_toEp, trivial⟩)) Tryz.func63 (by kernel_rfl) (by kernel_rfl) (fun cx b hp hb => all_of (by kernel_rfl : loopsOf (Tryz.f63.body.getD .skip) = []) trivial b hb) (R := (YChan)) (T := fun (d : aden P_l_toChan) => T_l_toChan d.1) e_l_toChan
def P_l_toTimer : List (Bool × List Sh) := [(true, h_1)]
def O_l_toTimer (r : (YTimer)) : List RV × List RV := ([rv (true, h_1) r], [])
def C_l_toTimer : Fns := []
def F_l_toTimer : Fun1 := funV P_l_toTimer (fun d => (T_l_toTimer d.1).val) O_l_toTimer
def Q_l_toTimer : Loops := fun _ _ => .fail
theorem e_l_toTimer : ∀ d, pcall ⟨lookT tys, ctrOf C_l_toTimer, kindOf C_l_toTimer, 3, 4⟩ 0 Q_l_toTimer Tryz.f102 .plain (mkA P_l_toTimer d) = (T_l_toTimer d.1).run fun r => some (O_l_toTimer r) := fun d => by kernel_rfl
theorem fn_l_toTimer : Fn Tryz.prog 102 .plain F_l_toTimer := fn_of (cfgOk_of mixed tys_ok (show FnsOk Tryz.prog C_l_toTimer from trivial)) Tryz.func102 (by kernel_rfl) (by kernel_rfl) (fun cx b hp hb => all_of (by kernel_rfl : loopsOf (Tryz.f102.body.getD .skip) = []) trivial b hb) (R := (YTimer)) (T := fun (d : aden P_l_toTimer) => T_l_toTimer d.1) e_l_toTimer
def P_l_toClient : List (Bool × List Sh) := [(true, h_14)]
def O_l_toClient (r : (YClient)) : List RV × List RV := ([rv (true, h_14) r], [])
def C_l_toClient : Fns := [(23, .plain, F_l_toByteS), (24, .plain, F_l_toAddr), (25, .plain, F_l_toFrame), (63, .plain, F_l_toChan), (102, .plain, F_l_toTimer)]
def F_l_toClient : Fun1 := funV P_l_toClient (fun d => (T_l_toClient d.1).val) O_l_toClient
def Q_l_toClient : Loops := fun _ _ => .fail
theorem e_l_toClient : ∀ d, pcall ⟨lookT tys, ctrOf C_l_toClient, kindOf C_l_toClient, 3, 4⟩ 0 Q_l_toClient Tryz.f34 .plain (mkA P_l_toClient d) = (T_l_toClient d.1).run fun r => some (O_l_toClient r) := fun d => by kernel_rfl
theorem fn_l_toClient : Fn Tryz.prog 34 .plain F_l_toClient := fn_of (cfgOk_of mixed tys_ok (show FnsOk Tryz.prog C_l_toClient from ⟨fn_l_toByteS, fn_l_toAddr, fn_l_toFrame, fn_l_toChan, fn_l_toTimer, trivial⟩)) Tryz.func34 (by kernel_rfl) (by kernel_rfl) (fun cx b hp hb => all_of (by kernel_rfl : loopsOf (Tryz.f34.body.getD .skip) = []) trivial b hb) (R := (YClient)) (T := fun (d : aden P_l_toClient) => T_l_toClient d.1) e_l_toClient
def P_s_l7Copy : List (Bool × List Sh) := [(true, h_9)]
def O_s_l7Copy (r : (YFrame)) : List RV × List RV := ([rv (true, h_9) r], [])
def C_s_l7Copy : Fns := []
def F_s_l7Copy : Fun1 := funV P_s_l7Copy (fun d => (T_s_l7Copy d.1).val) O_s_l7Copy
def Q_s_l7Copy : Loops := fun _ _ => .fail
theorem e_s_l7Copy : ∀ d, pcall ⟨lookT tys, ctrOf C_s_l7Copy, kindOf C_s_l7Copy, 3, 4⟩ 0 Q_s_l7Copy Tryz.f170 .plain (mkA P_s_l7Copy d) = (T_s_l7Copy d.1).run fun r => some (O_s_l7Copy r) := fun d => by kernel_rfl
theorem fn_s_l7Copy : Fn Tryz.prog 170 .plain F_s_l7Copy := fn_of (cfgOk_of mixed tys_ok (show FnsOk Tryz.prog C_s_l7Copy from trivial)) Tryz.func170 (by kernel_rfl) (by kernel_rfl) (fun cx b hp hb => all_of (by kernel_rfl : loopsOf (Tryz.f170.body.getD .skip) = []) trivial b hb) (R := (YFrame)) (T := fun (d : aden P_s_l7Copy) => T_s_l7Copy d.1) e_s_l7Copy
def P_s_l8Copy : List (Bool × List Sh) := [(true, [.int .i64, .sl 3 [.int .i64]])]
def O_s_l8Copy (r : (YWin)) : List RV × List RV := ([rv (true, [.int .i64, .sl 3 [.int .i64]]) r], [])
def C_s_l8Copy : Fns := []
def F_s_l8Copy : Fun1 := funV P_s_l8Copy (fun d => (T_s_l8Copy d.1).val) O_s_l8Copy
def Q_s_l8Copy : Loops := fun _ _ => .fail
theorem e_s_l8Copy : ∀ d, pcall ⟨lookT tys, ctrOf C_s_l8Copy, kindOf C_s_l8Copy, 3, 4⟩ 0 Q_s_l8Copy Tryz.f218 .plain (mkA P_s_l8Copy d) = (T_s_l8Copy d.1).run fun r => some (O_s_l8Copy r) := fun d => by kernel_rfl
theorem fn_s_l8Copy : Fn Tryz.prog 218 .plain F_s_l8Copy := fn_of (cfgOk_of mixed tys_ok (show FnsOk Tryz.prog C_s_l8Copy from trivial)) Tryz.func218 (by kernel_rfl) (by kernel_rfl) (fun cx b hp hb => all_of (by kernel_rfl : loopsOf (Tryz.f218.body.getD .skip) = []) trivial b hb) (R := (YWin)) (T := fun (d : aden P_s_l8Copy) => T_s_l8Copy d.1) e_s_l8Copy
def P_s_l9Copy : List (Bool × List Sh) := [(true, h_5)]
def O_s_l9Copy (r : (YEp)) : List RV × List RV := ([rv (true, h_5) r], [])
def C_s_l9Copy : Fns := [(218, .plain, F_s_l8Copy)]
def F_s_l9Copy : Fun1 := funV P_s_l9Copy (fun d => (T_s_l9Copy d.1).val) O_s_l9Copy
def Q_s_l9Copy : Loops := fun _ _ => .fail
theorem e_s_l9Copy : ∀ d, pcall ⟨lookT tys, ctrOf C_s_l9Copy, kindOf C_s_l9Copy, 3, 4⟩ 0 Q_s_l9Copy Tryz.f190 .plain (mkA P_s_l9Copy d) = (T_s_l9Copy d.1).run fun r => some (O_s_l9Copy r) := fun d => by kernel_rfl
theorem fn_s_l9Copy : Fn Tryz.prog 190 .plain F_s_l9Copy := fn_of (cfgOk_of mixed tys_ok (show FnsOk Tryz.prog C_s_l9Copy from ⟨fn_s_l8Copy, trivial⟩)) Tryz.func190 (by kernel_rfl) (by kernel_rfl) (fun cx b hp hb => all_of (by kernel_rfl : loopsOf (Tryz.f190.body.getD .skip) = []) trivial b hb) (R := (YEp)) (T := fun (d : aden P_s_l9Copy) => T_s_l9Copy d.1) e_s_l9Copy
def P_s_l14Ep : List (Bool × List Sh) := [(true, h_5), (false, [.bool])]
def O_s_l14Ep (r : (YEp)) : List RV × List RV := ([rv (true, h_5) r], [])
def C_s_l14Ep : Fns := [(190, .plain, F_s_l9Copy)]
def F_s_l14Ep : Fun1 := funV P_s_l14Ep (fun d => (T_s_l14Ep d.1 d.2.1).val) O_s_l14Ep
def Q_s_l14Ep : Loops := fun _ _ => .fail
theorem e_s_l14Ep : ∀ d, pcall ⟨lookT tys, ctrOf C_s_l14Ep, kindOf C_s_l14Ep, 3, 4⟩ 0 Q_s_l14Ep Tryz.f191 .plain (mkA P_s_l14Ep d) = (T_s_l14Ep d.1 d.2.1).run fun r => some (O_s_l14Ep r) := fun d => by kernel_rfl
theorem fn_s_l14Ep : Fn Tryz.prog 191 .plain F_s_l14Ep := fn_of (cfgOk_of mixed tys_ok (show FnsOk Tryz.prog C_s_l14Ep from ⟨fn_s_l9Copy, trivial⟩)) Tryz.func191 (by kernel_rfl) (by kernel_rfl) (fun cx b hp hb => all_of (by kernel_rfl : loopsOf (Tryz.f191.body.getD .skip) = []) trivial b hb) (R := (YEp)) (T := fun (d : aden P_s_l14Ep) => T_s_l14Ep d.1 d.2.1) e_s_l14Ep
def P_s_l14Copy : List (Bool × List Sh) := [(true, h_10)]
def O_s_l14Copy (r : (YChan)) : List RV × List RV := ([rv (true, h_10) r], [])
def C_s_l14Copy : Fns := [(190, .plain, F_s_l9Copy), (191, .plain, F_s_l14Ep)]
def F_s_l14Copy : Fun1 := funV P_s_l14Copy (fun d => (T_s_l14Copy d.1).val) O_s_l14Copy
def Q_s_l14Copy : Loops := fun _ _ => .fail
theorem e_s_l14Copy : ∀ d, pcall ⟨lookT tys, ctrOf C_s_l14Copy, kindOf C_s_l14Copy, 3, 4⟩ 0 Q_s_l14Copy Tryz.f133 .plain (mkA P_s_l14Copy d) = (T_s_l14Copy d.1).run fun r => some (O_s_l14Copy r) := fun d => by kernel_rfl
theorem fn_s_l14Copy : Fn Tryz.prog 133 .plain F_s_l14Copy := fn_of (cfgOk_of mixed tys_ok (show FnsOk Tryz.prog C_s_l14Copy from ⟨fn_s_l9Copy, fn_s_l14Ep, trivial⟩)) Tryz.func133 (by kernel_rfl) (by kernel_rfl) (fun cx b hp hb => all_of (by kernel_rfl : loopsOf (Tryz.f133.body.getD .skip) = []) trivial b hb) (R := (YChan)) (T := fun (d : aden P_s_l14Copy) => T_s_l14Copy d.1) e_s_l14Copy
def P_s_l19Copy : List (Bool × List Sh) := [(true, h_14)]
def O_s_l19Copy (r : (YClient)) : List RV × List RV := ([rv (true, h_14) r], [])
def C_s_l19Copy : Fns := [(170, .plain, F_s_l7Copy), (133, .plain, F_s_l14Copy)]
def F_s_l19Copy : Fun1 := funV P_s_l19Copy (fun d => (T_s_l19Copy d.1).val) O_s_l19Copy
def Q_s_l19Copy : Loops := fun _ _ => .fail
theorem e_s_l19Copy : ∀ d, pcall ⟨lookT tys, ctrOf C_s_l19Copy, kindOf C_s_l19Copy, 3, 4⟩ 0 Q_s_l19Copy Tryz.f98 .plain (mkA P_s_l19Copy d) = (T_s_l19Copy d.1).run fun r => some (O_s_l19Copy r) := fun d => by kernel_rfl
theorem fn_s_l19Copy : Fn Tryz.prog 98 .plain F_s_l19Copy := fn_of (cfgOk_of mixed tys_ok (show FnsOk Tryz.prog C_s_l19Copy from ⟨fn_s_l7Copy, fn_s_l14Copy, trivial⟩)) Tryz.func98 (by kernel_rfl) (by kernel_rfl) (fun cx b hp hb => all_of (by kernel_rfl : loopsOf (Tryz.f98.body.getD .skip) = []) trivial b hb) (R := (YClient)) (T := fun (d : aden P_s_l19Copy) => T_s_l19Copy d.1) e_s_l19Copy
def P_s_l1In : List (Bool × List Sh) := [(false, [.int .i64]), (false, [.int .i64]), (false, [.int .i64])]
def O_s_l1In (r : (Bool × Unit)) : List RV × List RV := ([rv (false, [.bool]) r], [])
def C_s_l1In : Fns := []
def F_s_l1In : Fun1 := funV P_s_l1In (fun d => (T_s_l1In d.1 d.2.1 d.2.2.1).val) O_s_l1In
def Q_s_l1In : Loops := fun _ _ => .fail
theorem e_s_l1In : ∀ d, pcall ⟨lookT tys, ctrOf C_s_l1In, kindOf C_s_l1In, 3, 4⟩ 0 Q_s_l1In Tryz.f60 .plain (mkA P_s_l1In d) = (T_s_l1In d.1 d.2.1 d.2.2.1).run fun r => some (O_s_l1In r) := fun d => by kernel_rfl
theorem fn_s_l1In : Fn Tryz.prog 60 .plain F_s_l1In := fn_of (cfgOk_of mixed tys_ok (show FnsOk Tryz.prog C_s_l1In from trivial)) Tryz.func60 (by kernel_rfl) (by kernel_rfl) (fun cx b hp hb => all_of (by kernel_rfl : loopsOf (Tryz.f60.body.getD .skip) = []) trivial b hb) (R := (Bool × Unit)) (T := fun (d : aden P_s_l1In) => T_s_l1In d.1 d.2.1 d.2.2.1) e_s_l1In
def P_s_PskOk : List (Bool × List Sh) := [(false, [.sl 5 [.int .u8]])]
def O_s_PskOk (r : (Bool × Unit)) : List RV × List RV := ([rv (false, [.bool]) r], [])
def C_s_PskOk : Fns := [(60, .plain, F_s_l1In)]
def F_s_PskOk : Fun1 := funV P_s_PskOk (fun d => (T_s_PskOk d.1).val) O_s_PskOk
def Q_s_PskOk : Loops := fun _ _ => .fail
theorem e_s_PskOk : ∀ d, pcall ⟨lookT tys, ctrOf C_s_PskOk, kindOf C_s_PskOk, 3, 4⟩ 0 Q_s_PskOk Tryz.f81 .plain (mkA P_s_PskOk d) = (T_s_PskOk d.1).run fun r => some (O_s_PskOk r) := fun d => by kernel_rfl
theorem fn_s_PskOk : Fn Tryz.prog 81 .plain F_s_PskOk := fn_of (cfgOk_of mixed tys_ok (show FnsOk Tryz.prog C_s_PskOk from ⟨fn_s_l1In, trivial⟩)) Tryz.func81 (by kernel_rfl) (by kernel_rfl) (fun cx b hp hb => all_of (by kernel_rfl : loopsOf (Tryz.f81.body.getD .skip) = []) trivial b hb) (R := (Bool × Unit)) (T := fun (d : aden P_s_PskOk) => T_s_PskOk d.1) e_s_PskOk
def P_s_AddrOk : List (Bool × List Sh) := [(true, [.int .i64, .int .i64])]
def O_s_AddrOk (r : (Bool × Unit)) : List RV × List RV := ([rv (false, [.bool]) r], [])
def C_s_AddrOk : Fns := [(60, .plain, F_s_l1In)]
def F_s_AddrOk : Fun1 := funV P_s_AddrOk (fun d => (T_s_AddrOk d.1).val) O_s_AddrOk
def Q_s_AddrOk : Loops := fun _ _ => .fail
theorem e_s_AddrOk : ∀ d, pcall ⟨lookT tys, ctrOf C_s_AddrOk, kindOf C_s_AddrOk, 3, 4⟩ 0 Q_s_AddrOk Tryz.f82 .plain (mkA P_s_AddrOk d) = (T_s_AddrOk d.1).run fun r => some (O_s_AddrOk r) := fun d => by kernel_rfl
theorem fn_s_AddrOk : Fn Tryz.prog 82 .plain F_s_AddrOk := fn_of (cfgOk_of mixed tys_ok (show FnsOk Tryz.prog C_s_AddrOk from ⟨fn_s_l1In, trivial⟩)) Tryz.func82 (by kernel_rfl) (by kernel_rfl) (fun cx b hp hb => all_of (by kernel_rfl : loopsOf (Tryz.f82.body.getD .skip) = []) trivial b hb) (R := (Bool × Unit)) (T := fun (d : aden P_s_AddrOk) => T_s_AddrOk d.1) e_s_AddrOk
def P_s_TimerOk : List (Bool × List Sh) := [(true, h_1)]
def O_s_TimerOk (r : (Bool × Unit)) : List RV × List RV := ([rv (false, [.bool]) r], [])
def C_s_TimerOk : Fns := [(60, .plain, F_s_l1In)]
def F_s_TimerOk : Fun1 := funV P_s_TimerOk (fun d => (T_s_TimerOk d.1).val) O_s_TimerOk
def Q_s_TimerOk : Loops := fun _ _ => .fail
theorem e_s_TimerOk : ∀ d, pcall ⟨lookT tys, ctrOf C_s_TimerOk, kindOf C_s_TimerOk, 3, 4⟩ 0 Q_s_TimerOk Tryz.f171 .plain (mkA P_s_TimerOk d) = (T_s_TimerOk d.1).run fun r => some (O_s_TimerOk r) := fun d => by kernel_rfl
theorem fn_s_TimerOk : Fn Tryz.prog 171 .plain F_s_TimerOk := fn_of (cfgOk_of mixed tys_ok (show FnsOk Tryz.prog C_s_TimerOk from ⟨fn_s_l1In, trivial⟩)) Tryz.func171 (by kernel_rfl) (by kernel_rfl) (fun cx b hp hb => all_of (by kernel_rfl : loopsOf (Tryz.f171.body.getD .skip) = []) trivial b hb) (R := (Bool × Unit)) (T := fun (d : aden P_s_TimerOk) => T_s_TimerOk d.1) e_s_TimerOk
def P_s_l19NoFrame : List (Bool × List Sh) := [(true, h_9)]
def O_s_l19NoFrame (r : (Bool × Unit)) : List RV × List RV := ([rv (false, [.bool]) r], [])
def C_s_l19NoFrame : Fns := []
def F_s_l19NoFrame : Fun1 := funV P_s_l19NoFrame (fun d => (T_s_l19NoFrame d.1).val) O_s_l19NoFrame
def Q_s_l19NoFrame : Loops := fun _ _ => .fail
theorem e_s_l19NoFrame : ∀ d, pcall ⟨lookT tys, ctrOf C_s_l19NoFrame, kindOf C_s_l19NoFrame, 3, 4⟩ 0 Q_s_l19NoFrame Tryz.f172 .plain (mkA P_s_l19NoFrame d) = (T_s_l19NoFrame d.1).run fun r => some (O_s_l19NoFrame r) := fun d => by kernel_rfl
theorem fn_s_l19NoFrame : Fn Tryz.prog 172 .plain F_s_l19NoFrame := fn_of (cfgOk_of mixed tys_ok (show FnsOk Tryz.prog C_s_l19NoFrame from trivial)) Tryz.func172 (by kernel_rfl) (by kernel_rfl) (fun cx b hp hb => all_of (by kernel_rfl : loopsOf (Tryz.f172.body.getD .skip) = []) trivial b hb) (R := (Bool × Unit)) (T := fun (d : aden P_s_l19NoFrame) => T_s_l19NoFrame d.1) e_s_l19NoFrame
def P_s_l14None : List (Bool × List Sh) := [(true, h_5)]
def O_s_l14None (r : (Bool × Unit)) : List RV × List RV := ([rv (false, [.bool]) r], [])
def C_s_l14None : Fns := []
def F_s_l14None : Fun1 := funV P_s_l14None (fun d => (T_s_l14None d.1).val) O_s_l14None
def Q_s_l14None : Loops := fun _ _ => .fail
theorem e_s_l14None : ∀ d, pcall ⟨lookT tys, ctrOf C_s_l14None, kindOf C_s_l14None, 3, 4⟩ 0 Q_s_l14None Tryz.f199 .plain (mkA P_s_l14None d) = (T_s_l14None d.1).run fun r => some (O_s_l14None r) := fun d => by kernel_rfl
theorem fn_s_l14None : Fn Tryz.prog 199 .plain F_s_l14None := fn_of (cfgOk_of mixed tys_ok (show FnsOk Tryz.prog C_s_l14None from trivial)) Tryz.func199 (by kernel_rfl) (by kernel_rfl) (fun cx b hp hb => all_of (by kernel_rfl : loopsOf (Tryz.f199.body.getD .skip) = []) trivial b hb) (R := (Bool × Unit)) (T := fun (d : aden P_s_l14None) => T_s_l14None d.1) e_s_l14None
def P_s_l19NoChan : List (Bool × List Sh) := [(true, h_10)]
def O_s_l19NoChan (r : (Bool × Unit)) : List RV × List RV := ([rv (false, [.bool]) r], [])
def C_s_l19NoChan : Fns := [(199, .plain, F_s_l14None)]
def F_s_l19NoChan : Fun1 := funV P_s_l19NoChan (fun d => (T_s_l19NoChan d.1).val) O_s_l19NoChan
def Q_s_l19NoChan : Loops := fun _ _ => .fail
theorem e_s_l19NoChan : ∀ d, pcall ⟨lookT tys, ctrOf C_s_l19NoChan, kindOf C_s_l19NoChan, 3, 4⟩ 0 Q_s_l19NoChan Tryz.f146 .plain (mkA P_s_l19NoChan d) = (T_s_l19NoChan d.1).run fun r => some (O_s_l19NoChan r) := fun d => by kernel_rfl
theorem fn_s_l19NoChan : Fn Tryz.prog 146 .plain F_s_l19NoChan := fn_of (cfgOk_of mixed tys_ok (show FnsOk Tryz.prog C_s_l19NoChan from ⟨fn_s_l14None, trivial⟩)) Tryz.func146 (by kernel_rfl) (by kernel_rfl) (fun cx b hp hb => all_of (by kernel_rfl : loopsOf (Tryz.f146.body.getD .skip) = []) trivial b hb) (R := (Bool × Unit)) (T := fun (d : aden P_s_l19NoChan) => T_s_l19NoChan d.1) e_s_l19NoChan
def P_s_l8Bit : List (Bool × List Sh) := [(true, [.int .i64, .sl 3 [.int .i64]]), (false, [.int .i64])]
def O_s_l8Bit (r : (Bool × Unit)) : List RV × List RV := ([rv (false, [.bool]) r], [])
def C_s_l8Bit : Fns := []
def F_s_l8Bit : Fun1 := funV P_s_l8Bit (fun d => (T_s_l8Bit d.1 d.2.1).val) O_s_l8Bit
def Q_s_l8Bit : Loops := fun _ _ => .fail
theorem e_s_l8Bit : ∀ d, pcall ⟨lookT tys, ctrOf C_s_l8Bit, kindOf C_s_l8Bit, 3, 4⟩ 0 Q_s_l8Bit Tryz.f230 .plain (mkA P_s_l8Bit d) = (T_s_l8Bit d.1 d.2.1).run fun r => some (O_s_l8Bit r) := fun d => by kernel_rfl
theorem fn_s_l8Bit : Fn Tryz.prog 230 .plain F_s_l8Bit := fn_of (cfgOk_of mixed tys_ok (show FnsOk Tryz.prog C_s_l8Bit from trivial)) Tryz.func230 (by kernel_rfl) (by kernel_rfl) (fun cx b hp hb => all_of (by kernel_rfl : loopsOf (Tryz.f230.body.getD .skip) = []) trivial b hb) (R := (Bool × Unit)) (T := fun (d : aden P_s_l8Bit) => T_s_l8Bit d.1 d.2.1) e_s_l8Bit
def P_s_WinOk : List (Bool × List Sh) := [(true, [.int .i64, .sl 3 [.int .i64]])]
def O_s_WinOk (r : (Bool × Unit)) : List RV × List RV := ([rv (false, [.bool]) r], [])
def C_s_WinOk : Fns := [(60, .plain, F_s_l1In), (230, .plain, F_s_l8Bit)]
def F_s_WinOk : Fun1 := funV P_s_WinOk (fun d => (T_s_WinOk d.1).val) O_s_WinOk
def K_s_WinOk_11 : Sk := ⟨[(1, .box 1 0), (4, .v false [(.int .i64, .nil)])], [(1, [(.int .i64, .nil), (.sl 3 [.int .i64], .ro)])], []⟩
def X_s_WinOk_11 : List (Ex × Sk) := [(.ret, ⟨[(2, .v false [(.bool, .nil)])], [], []⟩), ((.exit 2), ⟨[], [], []⟩)]
def K_s_WinOk_4 : Sk := ⟨[(1, .box 1 0), (3, .v false [(.int .i64, .nil)])], [(1, [(.int .i64, .nil), (.sl 3 [.int .i64], .ro)])], []⟩
def X_s_WinOk_4 : List (Ex × Sk) := [(.ret, ⟨[(2, .v false [(.bool, .nil)])], [], []⟩), ((.exit 0), ⟨[(1, .box 1 0)], [(1, [(.int .i64, .nil), (.sl 3 [.int .i64], .ro)])], []⟩)]
def Q_s_WinOk : Loops := fun i st => cond (Nat.beq i 4) (lam K_s_WinOk_4 5000000 X_s_WinOk_4 B_s_WinOk_4 st) <| cond (Nat.beq i 11) (lam K_s_WinOk_11 12000000 X_s_WinOk_11 B_s_WinOk_11 st) <| .fail
theorem lp_s_WinOk_4 : ∀ d, bod ⟨lookT tys, ctrOf C_s_WinOk, kindOf C_s_WinOk, 3, 4⟩ 0 Tryz.f222.ntmps Q_s_WinOk (nthLoop Tryz.f222 0) K_s_WinOk_4 5000000 X_s_WinOk_4 d = B_s_WinOk_4 d := fun d => by kernel_rfl
theorem lo_s_WinOk_4 (cx : Cx) (hp : cx.pin.length ≤ 0) : LoopOk Tryz.prog cx Tryz.f222.ntmps Q_s_WinOk (nthLoop Tryz.f222 0) := loop_of (cfgOk_of mixed tys_ok (show FnsOk Tryz.prog C_s_WinOk from ⟨fn_s_l1In, fn_s_l8Bit, trivial⟩)) hp (all_of (by kernel_rfl : loopsOf (nthLoop Tryz.f222 0) = []) trivial) (by kernel_rfl) lp_s_WinOk_4
theorem lp_s_WinOk_11 : ∀ d, bod ⟨lookT tys, ctrOf C_s_WinOk, kindOf C_s_WinOk, 3, 4⟩ 0 Tryz.f222.ntmps Q_s_WinOk (nthLoop Tryz.f222 1) K_s_WinOk_11 12000000 X_s_WinOk_11 d = B_s_WinOk_11 d := fun d => by kernel_rfl
theorem lo_s_WinOk_11 (cx : Cx) (hp : cx.pin.length ≤ 0) : LoopOk Tryz.prog cx Tryz.f222.ntmps Q_s_WinOk (nthLoop Tryz.f222 1) := loop_of (cfgOk_of mixed tys_ok (show FnsOk Tryz.prog C_s_WinOk from ⟨fn_s_l1In, fn_s_l8Bit, trivial⟩)) hp (all_of (by kernel_rfl : loopsOf (nthLoop Tryz.f222 1) = []) trivial) (by kernel_rfl) lp_s_WinOk_11
theorem e_s_WinOk : ∀ d, pcall ⟨lookT tys, ctrOf C_s_WinOk, kindOf C_s_WinOk, 3, 4⟩ 0 Q_s_WinOk Tryz.f222 .plain (mkA P_s_WinOk d) = (T_s_WinOk d.1).run fun r => some (O_s_WinOk r) := fun d => by kernel_rfl
theorem fn_s_WinOk : Fn Tryz.prog 222 .plain F_s_WinOk := fn_of (cfgOk_of mixed tys_ok (show FnsOk Tryz.prog C_s_WinOk from ⟨fn_s_l1In, fn_s_l8Bit, trivial⟩)) Tryz.func222 (by kernel_rfl) (by kernel_rfl) (fun cx b hp hb => all_of (by kernel_rfl : loopsOf (Tryz.f222.body.getD .skip) = [nthLoop Tryz.f222 0, nthLoop Tryz.f222 1]) ⟨lo_s_WinOk_4 cx hp, lo_s_WinOk_11 cx hp, trivial⟩ b hb) (R := (Bool × Unit)) (T := fun (d : aden P_s_WinOk) => T_s_WinOk d.1) e_s_WinOk
def P_s_EpOk : List (Bool × List Sh) := [(true, h_5)]
def O_s_EpOk (r : (Bool × Unit)) : List RV × List RV := ([rv (false, [.bool]) r], [])
def C_s_EpOk : Fns := [(60, .plain, F_s_l1In), (222, .plain, F_s_WinOk)]
def F_s_EpOk : Fun1 := funV P_s_EpOk (fun d => (T_s_EpOk d.1).val) O_s_EpOk
def Q_s_EpOk : Loops := fun _ _ => .fail
theorem e_s_EpOk : ∀ d, pcall ⟨lookT tys, ctrOf C_s_EpOk, kindOf C_s_EpOk, 3, 4⟩ 0 Q_s_EpOk Tryz.f200 .plain (mkA P_s_EpOk d) = (T_s_EpOk d.1).run fun r => some (O_s_EpOk r) := fun d => by kernel_rfl
theorem fn_s_EpOk : Fn Tryz.prog 200 .plain F_s_EpOk := fn_of (cfgOk_of mixed tys_ok (show FnsOk Tryz.prog C_s_EpOk from ⟨fn_s_l1In, fn_s_WinOk, trivial⟩)) Tryz.func200 (by kernel_rfl) (by kernel_rfl) (fun cx b hp hb => all_of (by kernel_rfl : loopsOf (Tryz.f200.body.getD .skip) = []) trivial b hb) (R := (Bool × Unit)) (T := fun (d : aden P_s_EpOk) => T_s_EpOk d.1) e_s_EpOk
def P_s_ChanOk : List (Bool × List Sh) := [(true, h_10)]
def O_s_ChanOk (r : (Bool × Unit)) : List RV × List RV := ([rv (false, [.bool]) r], [])
def C_s_ChanOk : Fns := [(60, .plain, F_s_l1In), (200, .plain, F_s_EpOk), (199, .plain, F_s_l14None)]
def F_s_ChanOk : Fun1 := funV P_s_ChanOk (fun d => (T_s_ChanOk d.1).val) O_s_ChanOk
def Q_s_ChanOk : Loops := fun _ _ => .fail
theorem e_s_ChanOk : ∀ d, pcall ⟨lookT tys, ctrOf C_s_ChanOk, kindOf C_s_ChanOk, 3, 4⟩ 0 Q_s_ChanOk Tryz.f148 .plain (mkA P_s_ChanOk d) = (T_s_ChanOk d.1).run fun r => some (O_s_ChanOk r) := fun d => by kernel_rfl
theorem fn_s_ChanOk : Fn Tryz.prog 148 .plain F_s_ChanOk := fn_of (cfgOk_of mixed tys_ok (show FnsOk Tryz.prog C_s_ChanOk from ⟨fn_s_l1In, fn_s_EpOk, fn_s_l14None, trivial⟩)) Tryz.func148 (by kernel_rfl) (by kernel_rfl) (fun cx b hp hb => all_of (by kernel_rfl : loopsOf (Tryz.f148.body.getD .skip) = []) trivial b hb) (R := (Bool × Unit)) (T := fun (d : aden P_s_ChanOk) => T_s_ChanOk d.1) e_s_ChanOk
def P_s_Sealed : List (Bool × List Sh) := [(false, [.int .i64])]
def O_s_Sealed (r : (Bool × Unit)) : List RV × List RV := ([rv (false, [.bool]) r], [])
def C_s_Sealed : Fns := [(60, .plain, F_s_l1In)]
def F_s_Sealed : Fun1 := funV P_s_Sealed (fun d => (T_s_Sealed d.1).val) O_s_Sealed
def Q_s_Sealed : Loops := fun _ _ => .fail
theorem e_s_Sealed : ∀ d, pcall ⟨lookT tys, ctrOf C_s_Sealed, kindOf C_s_Sealed, 3, 4⟩ 0 Q_s_Sealed Tryz.f155 .plain (mkA P_s_Sealed d) = (T_s_Sealed d.1).run fun r => some (O_s_Sealed r) := fun d => by kernel_rfl
theorem fn_s_Sealed : Fn Tryz.prog 155 .plain F_s_Sealed := fn_of (cfgOk_of mixed tys_ok (show FnsOk Tryz.prog C_s_Sealed from ⟨fn_s_l1In, trivial⟩)) Tryz.func155 (by kernel_rfl) (by kernel_rfl) (fun cx b hp hb => all_of (by kernel_rfl : loopsOf (Tryz.f155.body.getD .skip) = []) trivial b hb) (R := (Bool × Unit)) (T := fun (d : aden P_s_Sealed) => T_s_Sealed d.1) e_s_Sealed
def P_s_l7Body : List (Bool × List Sh) := [(false, [.int .i64]), (false, [.int .i64])]
def O_s_l7Body (r : (Bool × Unit)) : List RV × List RV := ([rv (false, [.bool]) r], [])
def C_s_l7Body : Fns := []
def F_s_l7Body : Fun1 := funV P_s_l7Body (fun d => (T_s_l7Body d.1 d.2.1).val) O_s_l7Body
def Q_s_l7Body : Loops := fun _ _ => .fail
theorem e_s_l7Body : ∀ d, pcall ⟨lookT tys, ctrOf C_s_l7Body, kindOf C_s_l7Body, 3, 4⟩ 0 Q_s_l7Body Tryz.f156 .plain (mkA P_s_l7Body d) = (T_s_l7Body d.1 d.2.1).run fun r => some (O_s_l7Body r) := fun d => by kernel_rfl
theorem fn_s_l7Body : Fn Tryz.prog 156 .plain F_s_l7Body := fn_of (cfgOk_of mixed tys_ok (show FnsOk Tryz.prog C_s_l7Body from trivial)) Tryz.func156 (by kernel_rfl) (by kernel_rfl) (fun cx b hp hb => all_of (by kernel_rfl : loopsOf (Tryz.f156.body.getD .skip) = []) trivial b hb) (R := (Bool × Unit)) (T := fun (d : aden P_s_l7Body) => T_s_l7Body d.1 d.2.1) e_s_l7Body
def P_s_FrameOk : List (Bool × List Sh) := [(true, h_9)]
def O_s_FrameOk (r : (Bool × Unit)) : List RV × List RV := ([rv (false, [.bool]) r], [])
def C_s_FrameOk : Fns := [(155, .plain, F_s_Sealed), (60, .plain, F_s_l1In), (156, .plain, F_s_l7Body)]
def F_s_FrameOk : Fun1 := funV P_s_FrameOk (fun d => (T_s_FrameOk d.1).val) O_s_FrameOk
def Q_s_FrameOk : Loops := fun _ _ => .fail
theorem e_s_FrameOk : ∀ d, pcall ⟨lookT tys, ctrOf C_s_FrameOk, kindOf C_s_FrameOk, 3, 4⟩ 0 Q_s_FrameOk Tryz.f83 .plain (mkA P_s_FrameOk d) = (T_s_FrameOk d.1).run fun r => some (O_s_FrameOk r) := fun d => by kernel_rfl
theorem fn_s_FrameOk : Fn Tryz.prog 83 .plain F_s_FrameOk := fn_of (cfgOk_of mixed tys_ok (show FnsOk Tryz.prog C_s_FrameOk from ⟨fn_s_Sealed, fn_s_l1In, fn_s_l7Body, trivial⟩)) Tryz.func83 (by kernel_rfl) (by kernel_rfl) (fun cx b hp hb => all_of (by kernel_rfl : loopsOf (Tryz.f83.body.getD .skip) = []) trivial b hb) (R := (Bool × Unit)) (T := fun (d : aden P_s_FrameOk) => T_s_FrameOk d.1) e_s_FrameOk
def P_s_l1Same : List (Bool × List Sh) := [(false, [.sl 5 [.int .u8]]), (false, [.sl 5 [.int .u8]])]
def O_s_l1Same (r : (Bool × Unit)) : List RV × List RV := ([rv (false, [.bool]) r], [])
def C_s_l1Same : Fns := []
def F_s_l1Same : Fun1 := funV P_s_l1Same (fun d => (T_s_l1Same d.1 d.2.1).val) O_s_l1Same
def Q_s_l1Same : Loops := fun _ _ => .fail
theorem e_s_l1Same : ∀ d, pcall ⟨lookT tys, ctrOf C_s_l1Same, kindOf C_s_l1Same, 3, 4⟩ 0 Q_s_l1Same Tryz.f149 .plain (mkA P_s_l1Same d) = (T_s_l1Same d.1 d.2.1).run fun r => some (O_s_l1Same r) := fun d => by kernel_rfl
theorem fn_s_l1Same : Fn Tryz.prog 149 .plain F_s_l1Same := fn_of (cfgOk_of mixed tys_ok (show FnsOk Tryz.prog C_s_l1Same from trivial)) Tryz.func149 (by kernel_rfl) (by kernel_rfl) (fun cx b hp hb => all_of (by kernel_rfl : loopsOf (Tryz.f149.body.getD .skip) = []) trivial b hb) (R := (Bool × Unit)) (T := fun (d : aden P_s_l1Same) => T_s_l1Same d.1 d.2.1) e_s_l1Same
def P_s_ClientOk : List (Bool × List Sh) := [(true, h_14)]
def O_s_ClientOk (r : (Bool × Unit)) : List RV × List RV := ([rv (false, [.bool]) r], [])
def C_s_ClientOk : Fns := [(60, .plain, F_s_l1In), (81, .plain, F_s_PskOk), (82, .plain, F_s_AddrOk), (171, .plain, F_s_TimerOk), (172, .plain, F_s_l19NoFrame), (146, .plain, F_s_l19NoChan), (148, .plain, F_s_ChanOk), (83, .plain, F_s_FrameOk), (149, .plain, F_s_l1Same)]
def F_s_ClientOk : Fun1 := funV P_s_ClientOk (fun d => (T_s_ClientOk d.1).val) O_s_ClientOk
def Q_s_ClientOk : Loops := fun _ _ => .fail
theorem e_s_ClientOk : ∀ d, pcall ⟨lookT tys, ctrOf C_s_ClientOk, kindOf C_s_ClientOk, 3, 4⟩ 0 Q_s_ClientOk Tryz.f99 .plain (mkA P_s_ClientOk d) = (T_s_ClientOk d.1).run fun r => some (O_s_ClientOk r) := fun d => by kernel_rfl
theorem fn_s_ClientOk : Fn Tryz.prog 99 .plain F_s_ClientOk := fn_of (cfgOk_of mixed tys_ok (show FnsOk Tryz.prog C_s_ClientOk from ⟨fn_s_l1In, fn_s_PskOk, fn_s_AddrOk, fn_s_TimerOk, fn_s_l19NoFrame, fn_s_l19NoChan, fn_s_ChanOk, fn_s_FrameOk, fn_s_l1Same, trivial⟩)) Tryz.func99 (by kernel_rfl) (by kernel_rfl) (fun cx b hp hb => all_of (by kernel_rfl : loopsOf (Tryz.f99.body.getD .skip) = []) trivial b hb) (R := (Bool × Unit)) (T := fun (d : aden P_s_ClientOk) => T_s_ClientOk d.1) e_s_ClientOk
def P_s_TimerSet : List (Bool × List Sh) := [(false, [.int .i64])]
def O_s_TimerSet (r : (YTimer)) : List RV × List RV := ([rv (true, h_1) r], [])
def C_s_TimerSet : Fns := [(60, .plain, F_s_l1In)]
def F_s_TimerSet : Fun1 := funV P_s_TimerSet (fun d => (T_s_TimerSet d.1).val) O_s_TimerSet
def Q_s_TimerSet : Loops := fun _ _ => .fail
theorem e_s_TimerSet : ∀ d, pcall ⟨lookT tys, ctrOf C_s_TimerSet, kindOf C_s_TimerSet, 3, 4⟩ 0 Q_s_TimerSet Tryz.f100 .plain (mkA P_s_TimerSet d) = (T_s_TimerSet d.1).run fun r => some (O_s_TimerSet r) := fun d => by kernel_rfl
theorem fn_s_TimerSet : Fn Tryz.prog 100 .plain F_s_TimerSet := fn_of (cfgOk_of mixed tys_ok (show FnsOk Tryz.prog C_s_TimerSet from ⟨fn_s_l1In, trivial⟩)) Tryz.func100 (by kernel_rfl) (by kernel_rfl) (fun cx b hp hb => all_of (by kernel_rfl : loopsOf (Tryz.f100.body.getD .skip) = []) trivial b hb) (R := (YTimer)) (T := fun (d : aden P_s_TimerSet) => T_s_TimerSet d.1) e_s_TimerSet
def P_s_l19Init : List (Bool × List Sh) := [(true, h_14)]
def O_s_l19Init (r : (YFrame)) : List RV × List RV := ([rv (true, h_9) r], [])
def C_s_l19Init : Fns := []
def F_s_l19Init : Fun1 := funV P_s_l19Init (fun d => (T_s_l19Init d.1).val) O_s_l19Init
def Q_s_l19Init : Loops := fun _ _ => .fail
theorem e_s_l19Init : ∀ d, pcall ⟨lookT tys, ctrOf C_s_l19Init, kindOf C_s_l19Init, 3, 4⟩ 0 Q_s_l19Init Tryz.f101 .plain (mkA P_s_l19Init d) = (T_s_l19Init d.1).run fun r => some (O_s_l19Init r) := fun d => by kernel_rfl
theorem fn_s_l19Init : Fn Tryz.prog 101 .plain F_s_l19Init := fn_of (cfgOk_of mixed tys_ok (show FnsOk Tryz.prog C_s_l19Init from trivial)) Tryz.func101 (by kernel_rfl) (by kernel_rfl) (fun cx b hp hb => all_of (by kernel_rfl : loopsOf (Tryz.f101.body.getD .skip) = []) trivial b hb) (R := (YFrame)) (T := fun (d : aden P_s_l19Init) => T_s_l19Init d.1) e_s_l19Init
def P_s_Dial : List (Bool × List Sh) := [(true, h_14), (false, [.int .i64]), (false, [.sl 5 [.int .u8]])]
def O_s_Dial (r : (YClient) × ((List YFrame) × Unit) × ((List YNote) × Unit) × (YI)) : List RV × List RV := ([rv (true, h_14) r.1, rv (false, [.sl 74 h_9]) r.2.1, rv (false, [.sl 145 h_8]) r.2.2.1, rv (false, [.int .i64]) r.2.2.2], [])
def C_s_Dial : Fns := [(98, .plain, F_s_l19Copy), (99, .plain, F_s_ClientOk), (60, .plain, F_s_l1In), (100, .plain, F_s_TimerSet), (101, .plain, F_s_l19Init)]
def F_s_Dial : Fun1 := funV P_s_Dial (fun d => (T_s_Dial d.1 d.2.1 d.2.2.1).val) O_s_Dial
def Q_s_Dial : Loops := fun _ _ => .fail
theorem e_s_Dial : ∀ d, pcall ⟨lookT tys, ctrOf C_s_Dial, kindOf C_s_Dial, 3, 4⟩ 0 Q_s_Dial Tryz.f33 .plain (mkA P_s_Dial d) = (T_s_Dial d.1 d.2.1 d.2.2.1).run fun r => some (O_s_Dial r) := fun d => by kernel_rfl
theorem fn_s_Dial : Fn Tryz.prog 33 .plain F_s_Dial := fn_of (cfgOk_of mixed tys_ok (show FnsOk Tryz.prog C_s_Dial from ⟨fn_s_l19Copy, fn_s_ClientOk, fn_s_l1In, fn_s_TimerSet, fn_s_l19Init, trivial⟩)) Tryz.func33 (by kernel_rfl) (by kernel_rfl) (fun cx b hp hb => all_of (by kernel_rfl : loopsOf (Tryz.f33.body.getD .skip) = []) trivial b hb) (R := (YClient) × ((List YFrame) × Unit) × ((List YNote) × Unit) × (YI)) (T := fun (d : aden P_s_Dial) => T_s_Dial d.1 d.2.1 d.2.2.1) e_s_Dial
def P_i_clone : List (Bool × List Sh) := [(false, [.sl 5 [.int .u8]])]
def O_i_clone (r : (YBs)) : List RV × List RV := ([rv (false, [.sl 5 [.int .u8]]) r], [])
def C_i_clone : Fns := []
def F_i_clone : Fun1 := funV P_i_clone (fun d => (T_i_clone d.1).val) O_i_clone
def Q_i_clone : Loops := fun _ _ => .fail
theorem e_i_clone : ∀ d, pcall ⟨lookT tys, ctrOf C_i_clone, kindOf C_i_clone, 3, 4⟩ 0 Q_i_clone Tryz.f91 .plain (mkA P_i_clone d) = (T_i_clone d.1).run fun r => some (O_i_clone r) := fun d => by kernel_rfl
theorem fn_i_clone : Fn Tryz.prog 91 .plain F_i_clone := fn_of (cfgOk_of mixed tys_ok (show FnsOk Tryz.prog C_i_clone from trivial)) Tryz.func91 (by kernel_rfl) (by kernel_rfl) (fun cx b hp hb => all_of (by kernel_rfl : loopsOf (Tryz.f91.body.getD .skip) = []) trivial b hb) (R := (YBs)) (T := fun (d : aden P_i_clone) => T_i_clone d.1) e_i_clone
def P_i_copyFrame : List (Bool × List Sh) := [(true, h_9)]
def O_i_copyFrame (r : (YFrame)) : List RV × List RV := ([rv (true, h_9) r], [])
def C_i_copyFrame : Fns := [(91, .plain, F_i_clone)]
def F_i_copyFrame : Fun1 := funV P_i_copyFrame (fun d => (T_i_copyFrame d.1).val) O_i_copyFrame
def Q_i_copyFrame : Loops := fun _ _ => .fail
theorem e_i_copyFrame : ∀ d, pcall ⟨lookT tys, ctrOf C_i_copyFrame, kindOf C_i_copyFrame, 3, 4⟩ 0 Q_i_copyFrame Tryz.f173 .plain (mkA P_i_copyFrame d) = (T_i_copyFrame d.1).run fun r => some (O_i_copyFrame r) := fun d => by kernel_rfl
theorem fn_i_copyFrame : Fn Tryz.prog 173 .plain F_i_copyFrame := fn_of (cfgOk_of mixed tys_ok (show FnsOk Tryz.prog C_i_copyFrame from ⟨fn_i_clone, trivial⟩)) Tryz.func173 (by kernel_rfl) (by kernel_rfl) (fun cx b hp hb => all_of (by kernel_rfl : loopsOf (Tryz.f173.body.getD .skip) = []) trivial b hb) (R := (YFrame)) (T := fun (d : aden P_i_copyFrame) => T_i_copyFrame d.1) e_i_copyFrame
def P_i_copyWin : List (Bool × List Sh) := [(true, [.int .i64, .sl 3 [.int .i64]])]
def O_i_copyWin (r : (YWin)) : List RV × List RV := ([rv (true, [.int .i64, .sl 3 [.int .i64]]) r], [])
def C_i_copyWin : Fns := []
def F_i_copyWin : Fun1 := funV P_i_copyWin (fun d => (T_i_copyWin d.1).val) O_i_copyWin
def Q_i_copyWin : Loops := fun _ _ => .fail
theorem e_i_copyWin : ∀ d, pcall ⟨lookT tys, ctrOf C_i_copyWin, kindOf C_i_copyWin, 3, 4⟩ 0 Q_i_copyWin Tryz.f220 .plain (mkA P_i_copyWin d) = (T_i_copyWin d.1).run fun r => some (O_i_copyWin r) := fun d => by kernel_rfl
theorem fn_i_copyWin : Fn Tryz.prog 220 .plain F_i_copyWin := fn_of (cfgOk_of mixed tys_ok (show FnsOk Tryz.prog C_i_copyWin from trivial)) Tryz.func220 (by kernel_rfl) (by kernel_rfl) (fun cx b hp hb => all_of (by kernel_rfl : loopsOf (Tryz.f220.body.getD .skip) = []) trivial b hb) (R := (YWin)) (T := fun (d : aden P_i_copyWin) => T_i_copyWin d.1) e_i_copyWin
def P_i_copyEp : List (Bool × List Sh) := [(true, h_5)]
def O_i_copyEp (r : (YEp)) : List RV × List RV := ([rv (true, h_5) r], [])
def C_i_copyEp : Fns := [(91, .plain, F_i_clone), (220, .plain, F_i_copyWin)]
def F_i_copyEp : Fun1 := funV P_i_copyEp (fun d => (T_i_copyEp d.1).val) O_i_copyEp
def Q_i_copyEp : Loops := fun _ _ => .fail
theorem e_i_copyEp : ∀ d, pcall ⟨lookT tys, ctrOf C_i_copyEp, kindOf C_i_copyEp, 3, 4⟩ 0 Q_i_copyEp Tryz.f195 .plain (mkA P_i_copyEp d) = (T_i_copyEp d.1).run fun r => some (O_i_copyEp r) := fun d => by kernel_rfl
theorem fn_i_copyEp : Fn Tryz.prog 195 .plain F_i_copyEp := fn_of (cfgOk_of mixed tys_ok (show FnsOk Tryz.prog C_i_copyEp from ⟨fn_i_clone, fn_i_copyWin, trivial⟩)) Tryz.func195 (by kernel_rfl) (by kernel_rfl) (fun cx b hp hb => all_of (by kernel_rfl : loopsOf (Tryz.f195.body.getD .skip) = []) trivial b hb) (R := (YEp)) (T := fun (d : aden P_i_copyEp) => T_i_copyEp d.1) e_i_copyEp
def P_i_copyChan : List (Bool × List Sh) := [(true, h_10)]
def O_i_copyChan (r : (YChan)) : List RV × List RV := ([rv (true, h_10) r], [])
def C_i_copyChan : Fns := [(91, .plain, F_i_clone), (195, .plain, F_i_copyEp)]
def F_i_copyChan : Fun1 := funV P_i_copyChan (fun d => (T_i_copyChan d.1).val) O_i_copyChan
def Q_i_copyChan : Loops := fun _ _ => .fail
theorem e_i_copyChan : ∀ d, pcall ⟨lookT tys, ctrOf C_i_copyChan, kindOf C_i_copyChan, 3, 4⟩ 0 Q_i_copyChan Tryz.f137 .plain (mkA P_i_copyChan d) = (T_i_copyChan d.1).run fun r => some (O_i_copyChan r) := fun d => by kernel_rfl
theorem fn_i_copyChan : Fn Tryz.prog 137 .plain F_i_copyChan := fn_of (cfgOk_of mixed tys_ok (show FnsOk Tryz.prog C_i_copyChan from ⟨fn_i_clone, fn_i_copyEp, trivial⟩)) Tryz.func137 (by kernel_rfl) (by kernel_rfl) (fun cx b hp hb => all_of (by kernel_rfl : loopsOf (Tryz.f137.body.getD .skip) = []) trivial b hb) (R := (YChan)) (T := fun (d : aden P_i_copyChan) => T_i_copyChan d.1) e_i_copyChan
def P_i_copyClient : List (Bool × List Sh) := [(true, h_14)]
def O_i_copyClient (r : (YClient)) : List RV × List RV := ([rv (true, h_14) r], [])
def C_i_copyClient : Fns := [(91, .plain, F_i_clone), (173, .plain, F_i_copyFrame), (137, .plain, F_i_copyChan)]
def F_i_copyClient : Fun1 := funV P_i_copyClient (fun d => (T_i_copyClient d.1).val) O_i_copyClient
def Q_i_copyClient : Loops := fun _ _ => .fail
theorem e_i_copyClient : ∀ d, pcall ⟨lookT tys, ctrOf C_i_copyClient, kindOf C_i_copyClient, 3, 4⟩ 0 Q_i_copyClient Tryz.f103 .plain (mkA P_i_copyClient d) = (T_i_copyClient d.1).run fun r => some (O_i_copyClient r) := fun d => by kernel_rfl
theorem fn_i_copyClient : Fn Tryz.prog 103 .plain F_i_copyClient := fn_of (cfgOk_of mixed tys_ok (show FnsOk Tryz.prog C_i_copyClient from ⟨fn_i_clone, fn_i_copyFrame, fn_i_copyChan, trivial⟩)) Tryz.func103 (by kernel_rfl) (by kernel_rfl) (fun cx b hp hb => all_of (by kernel_rfl : loopsOf (Tryz.f103.body.getD .skip) = []) trivial b hb) (R := (YClient)) (T := fun (d : aden P_i_copyClient) => T_i_copyClient d.1) e_i_copyClient
def P_i_within : List (Bool × List Sh) := [(false, [.int .i64]), (false, [.int .i64]), (false, [.int .i64])]
def O_i_within (r : (Bool × Unit)) : List RV × List RV := ([rv (false, [.bool]) r], [])
def C_i_within : Fns := []
def F_i_within : Fun1 := funV P_i_within (fun d => (T_i_within d.1 d.2.1 d.2.2.1).val) O_i_within
def Q_i_within : Loops := fun _ _ => .fail
theorem e_i_within : ∀ d, pcall ⟨lookT tys, ctrOf C_i_within, kindOf C_i_within, 3, 4⟩ 0 Q_i_within Tryz.f88 .plain (mkA P_i_within d) = (T_i_within d.1 d.2.1 d.2.2.1).run fun r => some (O_i_within r) := fun d => by kernel_rfl
theorem fn_i_within : Fn Tryz.prog 88 .plain F_i_within := fn_of (cfgOk_of mixed tys_ok (show FnsOk Tryz.prog C_i_within from trivial)) Tryz.func88 (by kernel_rfl) (by kernel_rfl) (fun cx b hp hb => all_of (by kernel_rfl : loopsOf (Tryz.f88.body.getD .skip) = []) trivial b hb) (R := (Bool × Unit)) (T := fun (d : aden P_i_within) => T_i_within d.1 d.2.1 d.2.2.1) e_i_within
def P_i_PskOk : List (Bool × List Sh) := [(false, [.sl 5 [.int .u8]])]
def O_i_PskOk (r : (Bool × Unit)) : List RV × List RV := ([rv (false, [.bool]) r], [])
def C_i_PskOk : Fns := [(88, .plain, F_i_within)]
def F_i_PskOk : Fun1 := funV P_i_PskOk (fun d => (T_i_PskOk d.1).val) O_i_PskOk
def Q_i_PskOk : Loops := fun _ _ => .fail
theorem e_i_PskOk : ∀ d, pcall ⟨lookT tys, ctrOf C_i_PskOk, kindOf C_i_PskOk, 3, 4⟩ 0 Q_i_PskOk Tryz.f87 .plain (mkA P_i_PskOk d) = (T_i_PskOk d.1).run fun r => some (O_i_PskOk r) := fun d => by kernel_rfl
theorem fn_i_PskOk : Fn Tryz.prog 87 .plain F_i_PskOk := fn_of (cfgOk_of mixed tys_ok (show FnsOk Tryz.prog C_i_PskOk from ⟨fn_i_within, trivial⟩)) Tryz.func87 (by kernel_rfl) (by kernel_rfl) (fun cx b hp hb => all_of (by kernel_rfl : loopsOf (Tryz.f87.body.getD .skip) = []) trivial b hb) (R := (Bool × Unit)) (T := fun (d : aden P_i_PskOk) => T_i_PskOk d.1) e_i_PskOk
def P_i_AddrOk : List (Bool × List Sh) := [(true, [.int .i64, .int .i64])]
def O_i_AddrOk (r : (Bool × Unit)) : List RV × List RV := ([rv (false, [.bool]) r], [])
def C_i_AddrOk : Fns := [(88, .plain, F_i_within)]
def F_i_AddrOk : Fun1 := funV P_i_AddrOk (fun d => (T_i_AddrOk d.1).val) O_i_AddrOk
def Q_i_AddrOk : Loops := fun _ _ => .fail
theorem e_i_AddrOk : ∀ d, pcall ⟨lookT tys, ctrOf C_i_AddrOk, kindOf C_i_AddrOk, 3, 4⟩ 0 Q_i_AddrOk Tryz.f89 .plain (mkA P_i_AddrOk d) = (T_i_AddrOk d.1).run fun r => some (O_i_AddrOk r) := fun d => by kernel_rfl
theorem fn_i_AddrOk : Fn Tryz.prog 89 .plain F_i_AddrOk := fn_of (cfgOk_of mixed tys_ok (show FnsOk Tryz.prog C_i_AddrOk from ⟨fn_i_within, trivial⟩)) Tryz.func89 (by kernel_rfl) (by kernel_rfl) (fun cx b hp hb => all_of (by kernel_rfl : loopsOf (Tryz.f89.body.getD .skip) = []) trivial b hb) (R := (Bool × Unit)) (T := fun (d : aden P_i_AddrOk) => T_i_AddrOk d.1) e_i_AddrOk
def P_bytes_Equal : List (Bool × List Sh) := [(false, [.sl 5 [.int .u8]]), (false, [.sl 5 [.int .u8]])]
def O_bytes_Equal (r : (Bool × Unit)) : List RV × List RV := ([rv (false, [.bool]) r], [])
def C_bytes_Equal : Fns := []
def F_bytes_Equal : Fun1 := funV P_bytes_Equal (fun d => (T_bytes_Equal d.1 d.2.1).val) O_bytes_Equal
def Q_bytes_Equal : Loops := fun _ _ => .fail
theorem e_bytes_Equal : ∀ d, pcall ⟨lookT tys, ctrOf C_bytes_Equal, kindOf C_bytes_Equal, 3, 4⟩ 0 Q_bytes_Equal Tryz.f153 .plain (mkA P_bytes_Equal d) = (T_bytes_Equal d.1 d.2.1).run fun r => some (O_bytes_Equal r) := fun d => by kernel_rfl
theorem fn_bytes_Equal : Fn Tryz.prog 153 .plain F_bytes_Equal := fn_of (cfgOk_of mixed tys_ok (show FnsOk Tryz.prog C_bytes_Equal from trivial)) Tryz.func153 (by kernel_rfl) (by kernel_rfl) (fun cx b hp hb => all_of (by kernel_rfl : loopsOf (Tryz.f153.body.getD .skip) = []) trivial b hb) (R := (Bool × Unit)) (T := fun (d : aden P_bytes_Equal) => T_bytes_Equal d.1 d.2.1) e_bytes_Equal
def P_i_sameFrame : List (Bool × List Sh) := [(true, h_9), (true, h_9)]
def O_i_sameFrame (r : (Bool × Unit)) : List RV × List RV := ([rv (false, [.bool]) r], [])
def C_i_sameFrame : Fns := [(153, .plain, F_bytes_Equal)]
def F_i_sameFrame : Fun1 := funV P_i_sameFrame (fun d => (T_i_sameFrame d.1 d.2.1).val) O_i_sameFrame
def Q_i_sameFrame : Loops := fun _ _ => .fail
theorem e_i_sameFrame : ∀ d, pcall ⟨lookT tys, ctrOf C_i_sameFrame, kindOf C_i_sameFrame, 3, 4⟩ 0 Q_i_sameFrame Tryz.f163 .plain (mkA P_i_sameFrame d) = (T_i_sameFrame d.1 d.2.1).run fun r => some (O_i_sameFrame r) := fun d => by kernel_rfl
theorem fn_i_sameFrame : Fn Tryz.prog 163 .plain F_i_sameFrame := fn_of (cfgOk_of mixed tys_ok (show FnsOk Tryz.prog C_i_sameFrame from ⟨fn_bytes_Equal, trivial⟩)) Tryz.func163 (by kernel_rfl) (by kernel_rfl) (fun cx b hp hb => all_of (by kernel_rfl : loopsOf (Tryz.f163.body.getD .skip) = []) trivial b hb) (R := (Bool × Unit)) (T := fun (d : aden P_i_sameFrame) => T_i_sameFrame d.1 d.2.1) e_i_sameFrame
def P_i_sameInts : List (Bool × List Sh) := [(false, [.sl 3 [.int .i64]]), (false, [.sl 3 [.int .i64]])]
def O_i_sameInts (r : (Bool × Unit)) : List RV × List RV := ([rv (false, [.bool]) r], [])
def C_i_sameInts : Fns := []
def F_i_sameInts : Fun1 := funV P_i_sameInts (fun d => (T_i_sameInts d.1 d.2.1).val) O_i_sameInts
def K_i_sameInts_4 : Sk := ⟨[(1, .v false [(.sl 3 [.int .i64], .ro)]), (12, .v false [(.sl 3 [.int .i64], .ro)]), (13, .v false [(.int .i64, .nil)]), (14, .v false [(.int .i64, .nil)])], [], []⟩
def X_i_sameInts_4 : List (Ex × Sk) := [(.ret, ⟨[(4, .v false [(.bool, .nil)])], [], []⟩), ((.exit 0), ⟨[], [], []⟩)]
def Q_i_sameInts : Loops := fun i st => cond (Nat.beq i 4) (lam K_i_sameInts_4 5000000 X_i_sameInts_4 B_i_sameInts_4 st) <| .fail
theorem lp_i_sameInts_4 : ∀ d, bod ⟨lookT tys, ctrOf C_i_sameInts, kindOf C_i_sameInts, 3, 4⟩ 0 Tryz.f223.ntmps Q_i_sameInts (nthLoop Tryz.f223 0) K_i_sameInts_4 5000000 X_i_sameInts_4 d = B_i_sameInts_4 d := fun d => by kernel_rfl
theorem lo_i_sameInts_4 (cx : Cx) (hp : cx.pin.length ≤ 0) : LoopOk Tryz.prog cx Tryz.f223.ntmps Q_i_sameInts (nthLoop Tryz.f223 0) := loop_of (cfgOk_of mixed tys_ok (show FnsOk Tryz.prog C_i_sameInts from trivial)) hp (all_of (by kernel_rfl : loopsOf (nthLoop Tryz.f223 0) = []) trivial) (by kernel_rfl) lp_i_sameInts_4
theorem e_i_sameInts : ∀ d, pcall ⟨lookT tys, ctrOf C_i_sameInts, kindOf C_i_sameInts, 3, 4⟩ 0 Q_i_sameInts Tryz.f223 .plain (mkA P_i_sameInts d) = (T_i_sameInts d.1 d.2.1).run fun r => some (O_i_sameInts r) := fun d => by kernel_rfl
theorem fn_i_sameInts : Fn Tryz.prog 223 .plain F_i_sameInts := fn_of (cfgOk_of mixed tys_ok (show FnsOk Tryz.prog C_i_sameInts from trivial)) Tryz.func223 (by kernel_rfl) (by kernel_rfl) (fun cx b hp hb => all_of (by kernel_rfl : loopsOf (Tryz.f223.body.getD .skip) = [nthLoop Tryz.f223 0]) ⟨lo_i_sameInts_4 cx hp, trivial⟩ b hb) (R := (Bool × Unit)) (T := fun (d : aden P_i_sameInts) => T_i_sameInts d.1 d.2.1) e_i_sameInts
def P_i_sameEp : List (Bool × List Sh) := [(true, h_5), (true, h_5)]
def O_i_sameEp (r : (Bool × Unit)) : List RV × List RV := ([rv (false, [.bool]) r], [])
def C_i_sameEp : Fns := [(153, .plain, F_bytes_Equal), (223, .plain, F_i_sameInts)]
def F_i_sameEp : Fun1 := funV P_i_sameEp (fun d => (T_i_sameEp d.1 d.2.1).val) O_i_sameEp
def Q_i_sameEp : Loops := fun _ _ => .fail
theorem e_i_sameEp : ∀ d, pcall ⟨lookT tys, ctrOf C_i_sameEp, kindOf C_i_sameEp, 3, 4⟩ 0 Q_i_sameEp Tryz.f201 .plain (mkA P_i_sameEp d) = (T_i_sameEp d.1 d.2.1).run fun r => some (O_i_sameEp r) := fun d => by kernel_rfl
theorem fn_i_sameEp : Fn Tryz.prog 201 .plain F_i_sameEp := fn_of (cfgOk_of mixed tys_ok (show FnsOk Tryz.prog C_i_sameEp from ⟨fn_bytes_Equal, fn_i_sameInts, trivial⟩)) Tryz.func201 (by kernel_rfl) (by kernel_rfl) (fun cx b hp hb => all_of (by kernel_rfl : loopsOf (Tryz.f201.body.getD .skip) = []) trivial b hb) (R := (Bool × Unit)) (T := fun (d : aden P_i_sameEp) => T_i_sameEp d.1 d.2.1) e_i_sameEp
def P_i_isZeroChan : List (Bool × List Sh) := [(true, h_10)]
def O_i_isZeroChan (r : (Bool × Unit)) : List RV × List RV := ([rv (false, [.bool]) r], [])
def C_i_isZeroChan : Fns := [(201, .plain, F_i_sameEp)]
def F_i_isZeroChan : Fun1 := funV P_i_isZeroChan (fun d => (T_i_isZeroChan d.1).val) O_i_isZeroChan
def Q_i_isZeroChan : Loops := fun _ _ => .fail
theorem e_i_isZeroChan : ∀ d, pcall ⟨lookT tys, ctrOf C_i_isZeroChan, kindOf C_i_isZeroChan, 3, 4⟩ 0 Q_i_isZeroChan Tryz.f151 .plain (mkA P_i_isZeroChan d) = (T_i_isZeroChan d.1).run fun r => some (O_i_isZeroChan r) := fun d => by kernel_rfl
theorem fn_i_isZeroChan : Fn Tryz.prog 151 .plain F_i_isZeroChan := fn_of (cfgOk_of mixed tys_ok (show FnsOk Tryz.prog C_i_isZeroChan from ⟨fn_i_sameEp, trivial⟩)) Tryz.func151 (by kernel_rfl) (by kernel_rfl) (fun cx b hp hb => all_of (by kernel_rfl : loopsOf (Tryz.f151.body.getD .skip) = []) trivial b hb) (R := (Bool × Unit)) (T := fun (d : aden P_i_isZeroChan) => T_i_isZeroChan d.1) e_i_isZeroChan
def P_i_isNonce : List (Bool × List Sh) := [(false, [.sl 5 [.int .u8]])]
def O_i_isNonce (r : (Bool × Unit)) : List RV × List RV := ([rv (false, [.bool]) r], [])
def C_i_isNonce : Fns := []
def F_i_isNonce : Fun1 := funV P_i_isNonce (fun d => (T_i_isNonce d.1).val) O_i_isNonce
def Q_i_isNonce : Loops := fun _ _ => .fail
theorem e_i_isNonce : ∀ d, pcall ⟨lookT tys, ctrOf C_i_isNonce, kindOf C_i_isNonce, 3, 4⟩ 0 Q_i_isNonce Tryz.f105 .plain (mkA P_i_isNonce d) = (T_i_isNonce d.1).run fun r => some (O_i_isNonce r) := fun d => by kernel_rfl
theorem fn_i_isNonce : Fn Tryz.prog 105 .plain F_i_isNonce := fn_of (cfgOk_of mixed tys_ok (show FnsOk Tryz.prog C_i_isNonce from trivial)) Tryz.func105 (by kernel_rfl) (by kernel_rfl) (fun cx b hp hb => all_of (by kernel_rfl : loopsOf (Tryz.f105.body.getD .skip) = []) trivial b hb) (R := (Bool × Unit)) (T := fun (d : aden P_i_isNonce) => T_i_isNonce d.1) e_i_isNonce
def P_i_TimerOk : List (Bool × List Sh) := [(true, h_1)]
def O_i_TimerOk (r : (Bool × Unit)) : List RV × List RV := ([rv (false, [.bool]) r], [])
def C_i_TimerOk : Fns := [(88, .plain, F_i_within)]
def F_i_TimerOk : Fun1 := funV P_i_TimerOk (fun d => (T_i_TimerOk d.1).val) O_i_TimerOk
def Q_i_TimerOk : Loops := fun _ _ => .fail
theorem e_i_TimerOk : ∀ d, pcall ⟨lookT tys, ctrOf C_i_TimerOk, kindOf C_i_TimerOk, 3, 4⟩ 0 Q_i_TimerOk Tryz.f174 .plain (mkA P_i_TimerOk d) = (T_i_TimerOk d.1).run fun r => some (O_i_TimerOk r) := fun d => by kernel_rfl
theorem fn_i_TimerOk : Fn Tryz.prog 174 .plain F_i_TimerOk := fn_of (cfgOk_of mixed tys_ok (show FnsOk Tryz.prog C_i_TimerOk from ⟨fn_i_within, trivial⟩)) Tryz.func174 (by kernel_rfl) (by kernel_rfl) (fun cx b hp hb => all_of (by kernel_rfl : loopsOf (Tryz.f174.body.getD .skip) = []) trivial b hb) (R := (Bool × Unit)) (T := fun (d : aden P_i_TimerOk) => T_i_TimerOk d.1) e_i_TimerOk
def P_i_Sealed : List (Bool × List Sh) := [(false, [.int .i64])]
def O_i_Sealed (r : (Bool × Unit)) : List RV × List RV := ([rv (false, [.bool]) r], [])
def C_i_Sealed : Fns := [(88, .plain, F_i_within)]
def F_i_Sealed : Fun1 := funV P_i_Sealed (fun d => (T_i_Sealed d.1).val) O_i_Sealed
def Q_i_Sealed : Loops := fun _ _ => .fail
theorem e_i_Sealed : ∀ d, pcall ⟨lookT tys, ctrOf C_i_Sealed, kindOf C_i_Sealed, 3, 4⟩ 0 Q_i_Sealed Tryz.f161 .plain (mkA P_i_Sealed d) = (T_i_Sealed d.1).run fun r => some (O_i_Sealed r) := fun d => by kernel_rfl
theorem fn_i_Sealed : Fn Tryz.prog 161 .plain F_i_Sealed := fn_of (cfgOk_of mixed tys_ok (show FnsOk Tryz.prog C_i_Sealed from ⟨fn_i_within, trivial⟩)) Tryz.func161 (by kernel_rfl) (by kernel_rfl) (fun cx b hp hb => all_of (by kernel_rfl : loopsOf (Tryz.f161.body.getD .skip) = []) trivial b hb) (R := (Bool × Unit)) (T := fun (d : aden P_i_Sealed) => T_i_Sealed d.1) e_i_Sealed
def P_i_bodyOk : List (Bool × List Sh) := [(false, [.int .i64]), (false, [.int .i64])]
def O_i_bodyOk (r : (Bool × Unit)) : List RV × List RV := ([rv (false, [.bool]) r], [])
def C_i_bodyOk : Fns := []
def F_i_bodyOk : Fun1 := funV P_i_bodyOk (fun d => (T_i_bodyOk d.1 d.2.1).val) O_i_bodyOk
def Q_i_bodyOk : Loops := fun _ _ => .fail
theorem e_i_bodyOk : ∀ d, pcall ⟨lookT tys, ctrOf C_i_bodyOk, kindOf C_i_bodyOk, 3, 4⟩ 0 Q_i_bodyOk Tryz.f162 .plain (mkA P_i_bodyOk d) = (T_i_bodyOk d.1 d.2.1).run fun r => some (O_i_bodyOk r) := fun d => by kernel_rfl
theorem fn_i_bodyOk : Fn Tryz.prog 162 .plain F_i_bodyOk := fn_of (cfgOk_of mixed tys_ok (show FnsOk Tryz.prog C_i_bodyOk from trivial)) Tryz.func162 (by kernel_rfl) (by kernel_rfl) (fun cx b hp hb => all_of (by kernel_rfl : loopsOf (Tryz.f162.body.getD .skip) = []) trivial b hb) (R := (Bool × Unit)) (T := fun (d : aden P_i_bodyOk) => T_i_bodyOk d.1 d.2.1) e_i_bodyOk
def P_i_FrameOk : List (Bool × List Sh) := [(true, h_9)]
def O_i_FrameOk (r : (Bool × Unit)) : List RV × List RV := ([rv (false, [.bool]) r], [])
def C_i_FrameOk : Fns := [(88, .plain, F_i_within), (105, .plain, F_i_isNonce), (161, .plain, F_i_Sealed), (162, .plain, F_i_bodyOk), (163, .plain, F_i_sameFrame)]
def F_i_FrameOk : Fun1 := funV P_i_FrameOk (fun d => (T_i_FrameOk d.1).val) O_i_FrameOk
def Q_i_FrameOk : Loops := fun _ _ => .fail
theorem e_i_FrameOk : ∀ d, pcall ⟨lookT tys, ctrOf C_i_FrameOk, kindOf C_i_FrameOk, 3, 4⟩ 0 Q_i_FrameOk Tryz.f90 .plain (mkA P_i_FrameOk d) = (T_i_FrameOk d.1).run fun r => some (O_i_FrameOk r) := fun d => by kernel_rfl
theorem fn_i_FrameOk : Fn Tryz.prog 90 .plain F_i_FrameOk := fn_of (cfgOk_of mixed tys_ok (show FnsOk Tryz.prog C_i_FrameOk from ⟨fn_i_within, fn_i_isNonce, fn_i_Sealed, fn_i_bodyOk, fn_i_sameFrame, trivial⟩)) Tryz.func90 (by kernel_rfl) (by kernel_rfl) (fun cx b hp hb => all_of (by kernel_rfl : loopsOf (Tryz.f90.body.getD .skip) = []) trivial b hb) (R := (Bool × Unit)) (T := fun (d : aden P_i_FrameOk) => T_i_FrameOk d.1) e_i_FrameOk
def P_i_isRole : List (Bool × List Sh) := [(false, [.int .i64])]
def O_i_isRole (r : (Bool × Unit)) : List RV × List RV := ([rv (false, [.bool]) r], [])
def C_i_isRole : Fns := []
def F_i_isRole : Fun1 := funV P_i_isRole (fun d => (T_i_isRole d.1).val) O_i_isRole
def Q_i_isRole : Loops := fun _ _ => .fail
theorem e_i_isRole : ∀ d, pcall ⟨lookT tys, ctrOf C_i_isRole, kindOf C_i_isRole, 3, 4⟩ 0 Q_i_isRole Tryz.f164 .plain (mkA P_i_isRole d) = (T_i_isRole d.1).run fun r => some (O_i_isRole r) := fun d => by kernel_rfl
theorem fn_i_isRole : Fn Tryz.prog 164 .plain F_i_isRole := fn_of (cfgOk_of mixed tys_ok (show FnsOk Tryz.prog C_i_isRole from trivial)) Tryz.func164 (by kernel_rfl) (by kernel_rfl) (fun cx b hp hb => all_of (by kernel_rfl : loopsOf (Tryz.f164.body.getD .skip) = []) trivial b hb) (R := (Bool × Unit)) (T := fun (d : aden P_i_isRole) => T_i_isRole d.1) e_i_isRole
def P_i_areWords : List (Bool × List Sh) := [(false, [.sl 3 [.int .i64]]), (false, [.int .i64])]
def O_i_areWords (r : (Bool × Unit)) : List RV × List RV := ([rv (false, [.bool]) r], [])
def C_i_areWords : Fns := [(88, .plain, F_i_within)]
def F_i_areWords : Fun1 := funV P_i_areWords (fun d => (T_i_areWords d.1 d.2.1).val) O_i_areWords
def K_i_areWords_2 : Sk := ⟨[(0, .v false [(.sl 3 [.int .i64], .ro)]), (1, .v false [(.int .i64, .nil)]), (7, .v false [(.sl 3 [.int .i64], .ro)]), (8, .v false [(.int .i64, .nil)]), (9, .v false [(.int .i64, .nil)])], [], []⟩
def X_i_areWords_2 : List (Ex × Sk) := [(.ret, ⟨[(4, .v false [(.bool, .nil)])], [], []⟩), ((.exit 0), ⟨[(0, .v false [(.sl 3 [.int .i64], .ro)]), (1, .v false [(.int .i64, .nil)])], [], []⟩)]
def Q_i_areWords : Loops := fun i st => cond (Nat.beq i 2) (lam K_i_areWords_2 3000000 X_i_areWords_2 B_i_areWords_2 st) <| .fail
theorem lp_i_areWords_2 : ∀ d, bod ⟨lookT tys, ctrOf C_i_areWords, kindOf C_i_areWords, 3, 4⟩ 0 Tryz.f231.ntmps Q_i_areWords (nthLoop Tryz.f231 0) K_i_areWords_2 3000000 X_i_areWords_2 d = B_i_areWords_2 d := fun d => by kernel_rfl
theorem lo_i_areWords_2 (cx : Cx) (hp : cx.pin.length ≤ 0) : LoopOk Tryz.prog cx Tryz.f231.ntmps Q_i_areWords (nthLoop Tryz.f231 0) := loop_of (cfgOk_of mixed tys_ok (show FnsOk Tryz.prog C_i_areWords from ⟨fn_i_within, trivial⟩)) hp (all_of (by kernel_rfl : loopsOf (nthLoop Tryz.f231 0) = []) trivial) (by kernel_rfl) lp_i_areWords_2
theorem e_i_areWords : ∀ d, pcall ⟨lookT tys, ctrOf C_i_areWords, kindOf C_i_areWords, 3, 4⟩ 0 Q_i_areWords Tryz.f231 .plain (mkA P_i_areWords d) = (T_i_areWords d.1 d.2.1).run fun r => some (O_i_areWords r) := fun d => by kernel_rfl
theorem fn_i_areWords : Fn Tryz.prog 231 .plain F_i_areWords := fn_of (cfgOk_of mixed tys_ok (show FnsOk Tryz.prog C_i_areWords from ⟨fn_i_within, trivial⟩)) Tryz.func231 (by kernel_rfl) (by kernel_rfl) (fun cx b hp hb => all_of (by kernel_rfl : loopsOf (Tryz.f231.body.getD .skip) = [nthLoop Tryz.f231 0]) ⟨lo_i_areWords_2 cx hp, trivial⟩ b hb) (R := (Bool × Unit)) (T := fun (d : aden P_i_areWords) => T_i_areWords d.1 d.2.1) e_i_areWords
def P_i_hasBit : List (Bool × List Sh) := [(true, [.int .i64, .sl 3 [.int .i64]]), (false, [.int .i64])]
def O_i_hasBit (r : (Bool × Unit)) : List RV × List RV := ([rv (false, [.bool]) r], [])
def C_i_hasBit : Fns := []
def F_i_hasBit : Fun1 := funV P_i_hasBit (fun d => (T_i_hasBit d.1 d.2.1).val) O_i_hasBit
def Q_i_hasBit : Loops := fun _ _ => .fail
theorem e_i_hasBit : ∀ d, pcall ⟨lookT tys, ctrOf C_i_hasBit, kindOf C_i_hasBit, 3, 4⟩ 0 Q_i_hasBit Tryz.f232 .plain (mkA P_i_hasBit d) = (T_i_hasBit d.1 d.2.1).run fun r => some (O_i_hasBit r) := fun d => by kernel_rfl
theorem fn_i_hasBit : Fn Tryz.prog 232 .plain F_i_hasBit := fn_of (cfgOk_of mixed tys_ok (show FnsOk Tryz.prog C_i_hasBit from trivial)) Tryz.func232 (by kernel_rfl) (by kernel_rfl) (fun cx b hp hb => all_of (by kernel_rfl : loopsOf (Tryz.f232.body.getD .skip) = []) trivial b hb) (R := (Bool × Unit)) (T := fun (d : aden P_i_hasBit) => T_i_hasBit d.1 d.2.1) e_i_hasBit
def P_i_WinOk : List (Bool × List Sh) := [(true, [.int .i64, .sl 3 [.int .i64]])]
def O_i_WinOk (r : (Bool × Unit)) : List RV × List RV := ([rv (false, [.bool]) r], [])
def C_i_WinOk : Fns := [(88, .plain, F_i_within), (231, .plain, F_i_areWords), (232, .plain, F_i_hasBit)]
def F_i_WinOk : Fun1 := funV P_i_WinOk (fun d => (T_i_WinOk d.1).val) O_i_WinOk
def K_i_WinOk_4 : Sk := ⟨[(1, .box 1 0), (3, .v false [(.int .i64, .nil)])], [(1, [(.int .i64, .nil), (.sl 3 [.int .i64], .ro)])], []⟩
def X_i_WinOk_4 : List (Ex × Sk) := [(.ret, ⟨[(2, .v false [(.bool, .nil)])], [], []⟩), ((.exit 0), ⟨[(1, .box 1 0)], [(1, [(.int .i64, .nil), (.sl 3 [.int .i64], .ro)])], []⟩)]
def Q_i_WinOk : Loops := fun i st => cond (Nat.beq i 4) (lam K_i_WinOk_4 5000000 X_i_WinOk_4 B_i_WinOk_4 st) <| .fail
theorem lp_i_WinOk_4 : ∀ d, bod ⟨lookT tys, ctrOf C_i_WinOk, kindOf C_i_WinOk, 3, 4⟩ 0 Tryz.f224.ntmps Q_i_WinOk (nthLoop Tryz.f224 0) K_i_WinOk_4 5000000 X_i_WinOk_4 d = B_i_WinOk_4 d := fun d => by kernel_rfl
theorem lo_i_WinOk_4 (cx : Cx) (hp : cx.pin.length ≤ 0) : LoopOk Tryz.prog cx Tryz.f224.ntmps Q_i_WinOk (nthLoop Tryz.f224 0) := loop_of (cfgOk_of mixed tys_ok (show FnsOk Tryz.prog C_i_WinOk from ⟨fn_i_within, fn_i_areWords, fn_i_hasBit, trivial⟩)) hp (all_of (by kernel_rfl : loopsOf (nthLoop Tryz.f224 0) = []) trivial) (by kernel_rfl) lp_i_WinOk_4
theorem e_i_WinOk : ∀ d, pcall ⟨lookT tys, ctrOf C_i_WinOk, kindOf C_i_WinOk, 3, 4⟩ 0 Q_i_WinOk Tryz.f224 .plain (mkA P_i_WinOk d) = (T_i_WinOk d.1).run fun r => some (O_i_WinOk r) := fun d => by kernel_rfl
theorem fn_i_WinOk : Fn Tryz.prog 224 .plain F_i_WinOk := fn_of (cfgOk_of mixed tys_ok (show FnsOk Tryz.prog C_i_WinOk from ⟨fn_i_within, fn_i_areWords, fn_i_hasBit, trivial⟩)) Tryz.func224 (by kernel_rfl) (by kernel_rfl) (fun cx b hp hb => all_of (by kernel_rfl : loopsOf (Tryz.f224.body.getD .skip) = [nthLoop Tryz.f224 0]) ⟨lo_i_WinOk_4 cx hp, trivial⟩ b hb) (R := (Bool × Unit)) (T := fun (d : aden P_i_WinOk) => T_i_WinOk d.1) e_i_WinOk
def P_i_EpOk : List (Bool × List Sh) := [(true, h_5)]
def O_i_EpOk (r : (Bool × Unit)) : List RV × List RV := ([rv (false, [.bool]) r], [])
def C_i_EpOk : Fns := [(88, .plain, F_i_within), (224, .plain, F_i_WinOk)]
def F_i_EpOk : Fun1 := funV P_i_EpOk (fun d => (T_i_EpOk d.1).val) O_i_EpOk
def Q_i_EpOk : Loops := fun _ _ => .fail
theorem e_i_EpOk : ∀ d, pcall ⟨lookT tys, ctrOf C_i_EpOk, kindOf C_i_EpOk, 3, 4⟩ 0 Q_i_EpOk Tryz.f202 .plain (mkA P_i_EpOk d) = (T_i_EpOk d.1).run fun r => some (O_i_EpOk r) := fun d => by kernel_rfl
theorem fn_i_EpOk : Fn Tryz.prog 202 .plain F_i_EpOk := fn_of (cfgOk_of mixed tys_ok (show FnsOk Tryz.prog C_i_EpOk from ⟨fn_i_within, fn_i_WinOk, trivial⟩)) Tryz.func202 (by kernel_rfl) (by kernel_rfl) (fun cx b hp hb => all_of (by kernel_rfl : loopsOf (Tryz.f202.body.getD .skip) = []) trivial b hb) (R := (Bool × Unit)) (T := fun (d : aden P_i_EpOk) => T_i_EpOk d.1) e_i_EpOk
def P_i_oldOk : List (Bool × List Sh) := [(true, h_10)]
def O_i_oldOk (r : (Bool × Unit)) : List RV × List RV := ([rv (false, [.bool]) r], [])
def C_i_oldOk : Fns := [(201, .plain, F_i_sameEp), (202, .plain, F_i_EpOk), (88, .plain, F_i_within)]
def F_i_oldOk : Fun1 := funV P_i_oldOk (fun d => (T_i_oldOk d.1).val) O_i_oldOk
def Q_i_oldOk : Loops := fun _ _ => .fail
theorem e_i_oldOk : ∀ d, pcall ⟨lookT tys, ctrOf C_i_oldOk, kindOf C_i_oldOk, 3, 4⟩ 0 Q_i_oldOk Tryz.f203 .plain (mkA P_i_oldOk d) = (T_i_oldOk d.1).run fun r => some (O_i_oldOk r) := fun d => by kernel_rfl
theorem fn_i_oldOk : Fn Tryz.prog 203 .plain F_i_oldOk := fn_of (cfgOk_of mixed tys_ok (show FnsOk Tryz.prog C_i_oldOk from ⟨fn_i_sameEp, fn_i_EpOk, fn_i_within, trivial⟩)) Tryz.func203 (by kernel_rfl) (by kernel_rfl) (fun cx b hp hb => all_of (by kernel_rfl : loopsOf (Tryz.f203.body.getD .skip) = []) trivial b hb) (R := (Bool × Unit)) (T := fun (d : aden P_i_oldOk) => T_i_oldOk d.1) e_i_oldOk
def P_i_ChanOk : List (Bool × List Sh) := [(true, h_10)]
def O_i_ChanOk (r : (Bool × Unit)) : List RV × List RV := ([rv (false, [.bool]) r], [])
def C_i_ChanOk : Fns := [(164, .plain, F_i_isRole), (105, .plain, F_i_isNonce), (202, .plain, F_i_EpOk), (203, .plain, F_i_oldOk)]
def F_i_ChanOk : Fun1 := funV P_i_ChanOk (fun d => (T_i_ChanOk d.1).val) O_i_ChanOk
def Q_i_ChanOk : Loops := fun _ _ => .fail
theorem e_i_ChanOk : ∀ d, pcall ⟨lookT tys, ctrOf C_i_ChanOk, kindOf C_i_ChanOk, 3, 4⟩ 0 Q_i_ChanOk Tryz.f152 .plain (mkA P_i_ChanOk d) = (T_i_ChanOk d.1).run fun r => some (O_i_ChanOk r) := fun d => by kernel_rfl
theorem fn_i_ChanOk : Fn Tryz.prog 152 .plain F_i_ChanOk := fn_of (cfgOk_of mixed tys_ok (show FnsOk Tryz.prog C_i_ChanOk from ⟨fn_i_isRole, fn_i_isNonce, fn_i_EpOk, fn_i_oldOk, trivial⟩)) Tryz.func152 (by kernel_rfl) (by kernel_rfl) (fun cx b hp hb => all_of (by kernel_rfl : loopsOf (Tryz.f152.body.getD .skip) = []) trivial b hb) (R := (Bool × Unit)) (T := fun (d : aden P_i_ChanOk) => T_i_ChanOk d.1) e_i_ChanOk
def P_i_finishOk : List (Bool × List Sh) := [(true, h_14)]
def O_i_finishOk (r : (Bool × Unit)) : List RV × List RV := ([rv (false, [.bool]) r], [])
def C_i_finishOk : Fns := [(105, .plain, F_i_isNonce), (90, .plain, F_i_FrameOk), (153, .plain, F_bytes_Equal), (152, .plain, F_i_ChanOk)]
def F_i_finishOk : Fun1 := funV P_i_finishOk (fun d => (T_i_finishOk d.1).val) O_i_finishOk
def Q_i_finishOk : Loops := fun _ _ => .fail
theorem e_i_finishOk : ∀ d, pcall ⟨lookT tys, ctrOf C_i_finishOk, kindOf C_i_finishOk, 3, 4⟩ 0 Q_i_finishOk Tryz.f175 .plain (mkA P_i_finishOk d) = (T_i_finishOk d.1).run fun r => some (O_i_finishOk r) := fun d => by kernel_rfl
theorem fn_i_finishOk : Fn Tryz.prog 175 .plain F_i_finishOk := fn_of (cfgOk_of mixed tys_ok (show FnsOk Tryz.prog C_i_finishOk from ⟨fn_i_isNonce, fn_i_FrameOk, fn_bytes_Equal, fn_i_ChanOk, trivial⟩)) Tryz.func175 (by kernel_rfl) (by kernel_rfl) (fun cx b hp hb => all_of (by kernel_rfl : loopsOf (Tryz.f175.body.getD .skip) = []) trivial b hb) (R := (Bool × Unit)) (T := fun (d : aden P_i_finishOk) => T_i_finishOk d.1) e_i_finishOk
def P_i_ClientOk : List (Bool × List Sh) := [(true, h_14)]
def O_i_ClientOk (r : (Bool × Unit)) : List RV × List RV := ([rv (false, [.bool]) r], [])
def C_i_ClientOk : Fns := [(88, .plain, F_i_within), (87, .plain, F_i_PskOk), (89, .plain, F_i_AddrOk), (163, .plain, F_i_sameFrame), (151, .plain, F_i_isZeroChan), (105, .plain, F_i_isNonce), (174, .plain, F_i_TimerOk), (175, .plain, F_i_finishOk), (152, .plain, F_i_ChanOk)]
def F_i_ClientOk : Fun1 := funV P_i_ClientOk (fun d => (T_i_ClientOk d.1).val) O_i_ClientOk
def Q_i_ClientOk : Loops := fun _ _ => .fail
theorem e_i_ClientOk : ∀ d, pcall ⟨lookT tys, ctrOf C_i_ClientOk, kindOf C_i_ClientOk, 3, 4⟩ 0 Q_i_ClientOk Tryz.f104 .plain (mkA P_i_ClientOk d) = (T_i_ClientOk d.1).run fun r => some (O_i_ClientOk r) := fun d => by kernel_rfl
theorem fn_i_ClientOk : Fn Tryz.prog 104 .plain F_i_ClientOk := fn_of (cfgOk_of mixed tys_ok (show FnsOk Tryz.prog C_i_ClientOk from ⟨fn_i_within, fn_i_PskOk, fn_i_AddrOk, fn_i_sameFrame, fn_i_isZeroChan, fn_i_isNonce, fn_i_TimerOk, fn_i_finishOk, fn_i_ChanOk, trivial⟩)) Tryz.func104 (by kernel_rfl) (by kernel_rfl) (fun cx b hp hb => all_of (by kernel_rfl : loopsOf (Tryz.f104.body.getD .skip) = []) trivial b hb) (R := (Bool × Unit)) (T := fun (d : aden P_i_ClientOk) => T_i_ClientOk d.1) e_i_ClientOk
def P_i_TimerSet : List (Bool × List Sh) := [(false, [.int .i64])]
def O_i_TimerSet (r : (YTimer)) : List RV × List RV := ([rv (true, h_1) r], [])
def C_i_TimerSet : Fns := [(88, .plain, F_i_within)]
def F_i_TimerSet : Fun1 := funV P_i_TimerSet (fun d => (T_i_TimerSet d.1).val) O_i_TimerSet
def Q_i_TimerSet : Loops := fun _ _ => .fail
theorem e_i_TimerSet : ∀ d, pcall ⟨lookT tys, ctrOf C_i_TimerSet, kindOf C_i_TimerSet, 3, 4⟩ 0 Q_i_TimerSet Tryz.f106 .plain (mkA P_i_TimerSet d) = (T_i_TimerSet d.1).run fun r => some (O_i_TimerSet r) := fun d => by kernel_rfl
theorem fn_i_TimerSet : Fn Tryz.prog 106 .plain F_i_TimerSet := fn_of (cfgOk_of mixed tys_ok (show FnsOk Tryz.prog C_i_TimerSet from ⟨fn_i_within, trivial⟩)) Tryz.func106 (by kernel_rfl) (by kernel_rfl) (fun cx b hp hb => all_of (by kernel_rfl : loopsOf (Tryz.f106.body.getD .skip) = []) trivial b hb) (R := (YTimer)) (T := fun (d : aden P_i_TimerSet) => T_i_TimerSet d.1) e_i_TimerSet
def P_i_initOf : List (Bool × List Sh) := [(true, h_14)]
def O_i_initOf (r : (YFrame)) : List RV × List RV := ([rv (true, h_9) r], [])
def C_i_initOf : Fns := [(91, .plain, F_i_clone)]
def F_i_initOf : Fun1 := funV P_i_initOf (fun d => (T_i_initOf d.1).val) O_i_initOf
def Q_i_initOf : Loops := fun _ _ => .fail
theorem e_i_initOf : ∀ d, pcall ⟨lookT tys, ctrOf C_i_initOf, kindOf C_i_initOf, 3, 4⟩ 0 Q_i_initOf Tryz.f107 .plain (mkA P_i_initOf d) = (T_i_initOf d.1).run fun r => some (O_i_initOf r) := fun d => by kernel_rfl
theorem fn_i_initOf : Fn Tryz.prog 107 .plain F_i_initOf := fn_of (cfgOk_of mixed tys_ok (show FnsOk Tryz.prog C_i_initOf from ⟨fn_i_clone, trivial⟩)) Tryz.func107 (by kernel_rfl) (by kernel_rfl) (fun cx b hp hb => all_of (by kernel_rfl : loopsOf (Tryz.f107.body.getD .skip) = []) trivial b hb) (R := (YFrame)) (T := fun (d : aden P_i_initOf) => T_i_initOf d.1) e_i_initOf
def P_i_Dial : List (Bool × List Sh) := [(true, h_14), (false, [.int .i64]), (false, [.sl 5 [.int .u8]])]
def O_i_Dial (r : (YClient) × ((List YFrame) × Unit) × ((List YNote) × Unit) × (YI)) : List RV × List RV := ([rv (true, h_14) r.1, rv (false, [.sl 74 h_9]) r.2.1, rv (false, [.sl 145 h_8]) r.2.2.1, rv (false, [.int .i64]) r.2.2.2], [])
def C_i_Dial : Fns := [(103, .plain, F_i_copyClient), (104, .plain, F_i_ClientOk), (88, .plain, F_i_within), (105, .plain, F_i_isNonce), (91, .plain, F_i_clone), (106, .plain, F_i_TimerSet), (107, .plain, F_i_initOf)]
def F_i_Dial : Fun1 := funV P_i_Dial (fun d => (T_i_Dial d.1 d.2.1 d.2.2.1).val) O_i_Dial
def Q_i_Dial : Loops := fun _ _ => .fail
theorem e_i_Dial : ∀ d, pcall ⟨lookT tys, ctrOf C_i_Dial, kindOf C_i_Dial, 3, 4⟩ 0 Q_i_Dial Tryz.f35 .plain (mkA P_i_Dial d) = (T_i_Dial d.1 d.2.1 d.2.2.1).run fun r => some (O_i_Dial r) := fun d => by kernel_rfl
theorem fn_i_Dial : Fn Tryz.prog 35 .plain F_i_Dial := fn_of (cfgOk_of mixed tys_ok (show FnsOk Tryz.prog C_i_Dial from ⟨fn_i_copyClient, fn_i_ClientOk, fn_i_within, fn_i_isNonce, fn_i_clone, fn_i_TimerSet, fn_i_initOf, trivial⟩)) Tryz.func35 (by kernel_rfl) (by kernel_rfl) (fun cx b hp hb => all_of (by kernel_rfl : loopsOf (Tryz.f35.body.getD .skip) = []) trivial b hb) (R := (YClient) × ((List YFrame) × Unit) × ((List YNote) × Unit) × (YI)) (T := fun (d : aden P_i_Dial) => T_i_Dial d.1 d.2.1 d.2.2.1) e_i_Dial
def P_l_eqByteS : List (Bool × List Sh) := [(false, [.sl 5 [.int .u8]]), (false, [.sl 5 [.int .u8]])]
def O_l_eqByteS (r : (Bool × Unit)) : List RV × List RV := ([rv (false, [.bool]) r], [])
def C_l_eqByteS : Fns := []
def F_l_eqByteS : Fun1 := funV P_l_eqByteS (fun d => (T_l_eqByteS d.1 d.2.1).val) O_l_eqByteS
def K_l_eqByteS_4 : Sk := ⟨[(0, .v false [(.sl 5 [.int .u8], .ro)]), (1, .v false [(.sl 5 [.int .u8], .ro)]), (5, .v false [(.int .i64, .nil)])], [], []⟩
def X_l_eqByteS_4 : List (Ex × Sk) := [(.ret, ⟨[(4, .v false [(.bool, .nil)])], [], []⟩), ((.exit 0), ⟨[], [], []⟩)]
def Q_l_eqByteS : Loops := fun i st => cond (Nat.beq i 4) (lam K_l_eqByteS_4 5000000 X_l_eqByteS_4 B_l_eqByteS_4 st) <| .fail
theorem lp_l_eqByteS_4 : ∀ d, bod ⟨lookT tys, ctrOf C_l_eqByteS, kindOf C_l_eqByteS, 3, 4⟩ 0 Tryz.f27.ntmps Q_l_eqByteS (nthLoop Tryz.f27 0) K_l_eqByteS_4 5000000 X_l_eqByteS_4 d = B_l_eqByteS_4 d := fun d => by kernel_rfl
theorem lo_l_eqByteS_4 (cx : Cx) (hp : cx.pin.length ≤ 0) : LoopOk Tryz.prog cx Tryz.f27.ntmps Q_l_eqByteS (nthLoop Tryz.f27 0) := loop_of (cfgOk_of mixed tys_ok (show FnsOk Tryz.prog C_l_eqByteS from trivial)) hp (all_of (by kernel_rfl : loopsOf (nthLoop Tryz.f27 0) = []) trivial) (by kernel_rfl) lp_l_eqByteS_4
theorem e_l_eqByteS : ∀ d, pcall ⟨lookT tys, ctrOf C_l_eqByteS, kindOf C_l_eqByteS, 3, 4⟩ 0 Q_l_eqByteS Tryz.f27 .plain (mkA P_l_eqByteS d) = (T_l_eqByteS d.1 d.2.1).run fun r => some (O_l_eqByteS r) := fun d => by kernel_rfl
theorem fn_l_eqByteS : Fn Tryz.prog 27 .plain F_l_eqByteS := fn_of (cfgOk_of mixed tys_ok (show FnsOk Tryz.prog C_l_eqByteS from trivial)) Tryz.func27 (by kernel_rfl) (by kernel_rfl) (fun cx b hp hb => all_of (by kernel_rfl : loopsOf (Tryz.f27.body.getD .skip) = [nthLoop Tryz.f27 0]) ⟨lo_l_eqByteS_4 cx hp, trivial⟩ b hb) (R := (Bool × Unit)) (T := fun (d : aden P_l_eqByteS) => T_l_eqByteS d.1 d.2.1) e_l_eqByteS
def P_l_eqAddr : List (Bool × List Sh) := [(true, [.int .i64, .int .i64]), (true, [.int .i64, .int .i64])]
def O_l_eqAddr (r : (Bool × Unit)) : List RV × List RV := ([rv (false, [.bool]) r], [])
def C_l_eqAddr : Fns := []
def F_l_eqAddr : Fun1 := funV P_l_eqAddr (fun d => (T_l_eqAddr d.1 d.2.1).val) O_l_eqAddr
def Q_l_eqAddr : Loops := fun _ _ => .fail
theorem e_l_eqAddr : ∀ d, pcall ⟨lookT tys, ctrOf C_l_eqAddr, kindOf C_l_eqAddr, 3, 4⟩ 0 Q_l_eqAddr Tryz.f108 .plain (mkA P_l_eqAddr d) = (T_l_eqAddr d.1 d.2.1).run fun r => some (O_l_eqAddr r) := fun d => by kernel_rfl
theorem fn_l_eqAddr : Fn Tryz.prog 108 .plain F_l_eqAddr := fn_of (cfgOk_of mixed tys_ok (show FnsOk Tryz.prog C_l_eqAddr from trivial)) Tryz.func108 (by kernel_rfl) (by kernel_rfl) (fun cx b hp hb => all_of (by kernel_rfl : loopsOf (Tryz.f108.body.getD .skip) = []) trivial b hb) (R := (Bool × Unit)) (T := fun (d : aden P_l_eqAddr) => T_l_eqAddr d.1 d.2.1) e_l_eqAddr
def P_l_eqFrame : List (Bool × List Sh) := [(true, h_9), (true, h_9)]
def O_l_eqFrame (r : (Bool × Unit)) : List RV × List RV := ([rv (false, [.bool]) r], [])
def C_l_eqFrame : Fns := [(27, .plain, F_l_eqByteS)]
def F_l_eqFrame : Fun1 := funV P_l_eqFrame (fun d => (T_l_eqFrame d.1 d.2.1).val) O_l_eqFrame
def Q_l_eqFrame : Loops := fun _ _ => .fail
theorem e_l_eqFrame : ∀ d, pcall ⟨lookT tys, ctrOf C_l_eqFrame, kindOf C_l_eqFrame, 3, 4⟩ 0 Q_l_eqFrame Tryz.f28 .plain (mkA P_l_eqFrame d) = (T_l_eqFrame d.1 d.2.1).run fun r => some (O_l_eqFrame r) := fun d => by kernel_rfl
theorem fn_l_eqFrame : Fn Tryz.prog 28 .plain F_l_eqFrame := fn_of (cfgOk_of mixed tys_ok (show FnsOk Tryz.prog C_l_eqFrame from ⟨fn_l_eqByteS, trivial⟩)) Tryz.func28 (by kernel_rfl) (by kernel_rfl) (fun cx b hp hb => all_of (by kernel_rfl : loopsOf (Tryz.f28.body.getD .skip) = []) trivial b hb) (R := (Bool × Unit)) (T := fun (d : aden P_l_eqFrame) => T_l_eqFrame d.1 d.2.1) e_l_eqFrame
def P_l_eqIntS : List (Bool × List Sh) := [(false, [.sl 3 [.int .i64]]), (false, [.sl 3 [.int .i64]])]
def O_l_eqIntS (r : (Bool × Unit)) : List RV × List RV := ([rv (false, [.bool]) r], [])
def C_l_eqIntS : Fns := []
def F_l_eqIntS : Fun1 := funV P_l_eqIntS (fun d => (T_l_eqIntS d.1 d.2.1).val) O_l_eqIntS
def K_l_eqIntS_4 : Sk := ⟨[(0, .v false [(.sl 3 [.int .i64], .ro)]), (1, .v false [(.sl 3 [.int .i64], .ro)]), (5, .v false [(.int .i64, .nil)])], [], []⟩
def X_l_eqIntS_4 : List (Ex × Sk) := [(.ret, ⟨[(4, .v false [(.bool, .nil)])], [], []⟩), ((.exit 0), ⟨[], [], []⟩)]
def Q_l_eqIntS : Loops := fun i st => cond (Nat.beq i 4) (lam K_l_eqIntS_4 5000000 X_l_eqIntS_4 B_l_eqIntS_4 st) <| .fail
theorem lp_l_eqIntS_4 : ∀ d, bod ⟨lookT tys, ctrOf C_l_eqIntS, kindOf C_l_eqIntS, 3, 4⟩ 0 Tryz.f221.ntmps Q_l_eqIntS (nthLoop Tryz.f221 0) K_l_eqIntS_4 5000000 X_l_eqIntS_4 d = B_l_eqIntS_4 d := fun d => by kernel_rfl
theorem lo_l_eqIntS_4 (cx : Cx) (hp : cx.pin.length ≤ 0) : LoopOk Tryz.prog cx Tryz.f221.ntmps Q_l_eqIntS (nthLoop Tryz.f221 0) := loop_of (cfgOk_of mixed tys_ok (show FnsOk Tryz.prog C_l_eqIntS from trivial)) hp (all_of (by kernel_rfl : loopsOf (nthLoop Tryz.f221 0) = []) trivial) (by kernel_rfl) lp_l_eqIntS_4
theorem e_l_eqIntS : ∀ d, pcall ⟨lookT tys, ctrOf C_l_eqIntS, kindOf C_l_eqIntS, 3, 4⟩ 0 Q_l_eqIntS Tryz.f221 .plain (mkA P_l_eqIntS d) = (T_l_eqIntS d.1 d.2.1).run fun r => some (O_l_eqIntS r) := fun d => by kernel_rfl
theorem fn_l_eqIntS : Fn Tryz.prog 221 .plain F_l_eqIntS := fn_of (cfgOk_of mixed tys_ok (show FnsOk Tryz.prog C_l_eqIntS from trivial)) Tryz.func221 (by kernel_rfl) (by kernel_rfl) (fun cx b hp hb => all_of (by kernel_rfl : loopsOf (Tryz.f221.body.getD .skip) = [nthLoop Tryz.f221 0]) ⟨lo_l_eqIntS_4 cx hp, trivial⟩ b hb) (R := (Bool × Unit)) (T := fun (d : aden P_l_eqIntS) => T_l_eqIntS d.1 d.2.1) e_l_eqIntS
def P_l_eqWin : List (Bool × List Sh) := [(true, [.int .i64, .sl 3 [.int .i64]]), (true, [.int .i64, .sl 3 [.int .i64]])]
def O_l_eqWin (r : (Bool × Unit)) : List RV × List RV := ([rv (false, [.bool]) r], [])
def C_l_eqWin : Fns := [(221, .plain, F_l_eqIntS)]
def F_l_eqWin : Fun1 := funV P_l_eqWin (fun d => (T_l_eqWin d.1 d.2.1).val) O_l_eqWin
def Q_l_eqWin : Loops := fun _ _ => .fail
theorem e_l_eqWin : ∀ d, pcall ⟨lookT tys, ctrOf C_l_eqWin, kindOf C_l_eqWin, 3, 4⟩ 0 Q_l_eqWin Tryz.f196 .plain (mkA P_l_eqWin d) = (T_l_eqWin d.1 d.2.1).run fun r => some (O_l_eqWin r) := fun d => by kernel_rfl
theorem fn_l_eqWin : Fn Tryz.prog 196 .plain F_l_eqWin := fn_of (cfgOk_of mixed tys_ok (show FnsOk Tryz.prog C_l_eqWin from ⟨fn_l_eqIntS, trivial⟩)) Tryz.func196 (by kernel_rfl) (by kernel_rfl) (fun cx b hp hb => all_of (by kernel_rfl : loopsOf (Tryz.f196.body.getD .skip) = []) trivial b hb) (R := (Bool × Unit)) (T := fun (d : aden P_l_eqWin) => T_l_eqWin d.1 d.2.1) e_l_eqWin
def P_l_eqEp : List (Bool × List Sh) := [(true, h_5), (true, h_5)]
def O_l_eqEp (r : (Bool × Unit)) : List RV × List RV := ([rv (false, [.bool]) r], [])
def C_l_eqEp : Fns := [(27, .plain, F_l_eqByteS), (196, .plain, F_l_eqWin)]
def F_l_eqEp : Fun1 := funV P_l_eqEp (fun d => (T_l_eqEp d.1 d.2.1).val) O_l_eqEp
def Q_l_eqEp : Loops := fun _ _ => .fail
theorem e_l_eqEp : ∀ d, pcall ⟨lookT tys, ctrOf C_l_eqEp, kindOf C_l_eqEp, 3, 4⟩ 0 Q_l_eqEp Tryz.f139 .plain (mkA P_l_eqEp d) = (T_l_eqEp d.1 d.2.1).run fun r => some (O_l_eqEp r) := fun d => by kernel_rfl
theorem fn_l_eqEp : Fn Tryz.prog 139 .plain F_l_eqEp := fn_of (cfgOk_of mixed tys_ok (show FnsOk Tryz.prog C_l_eqEp from ⟨fn_l_eqByteS, fn_l_eqWin, trivial⟩)) Tryz.func139 (by kernel_rfl) (by kernel_rfl) (fun cx b hp hb => all_of (by kernel_rfl : loopsOf (Tryz.f139.body.getD .skip) = []) trivial b hb) (R := (Bool × Unit)) (T := fun (d : aden P_l_eqEp) => T_l_eqEp d.1 d.2.1) e_l_eqEp
def P_l_eqChan : List (Bool × List Sh) := [(true, h_10), (true, h_10)]
def O_l_eqChan (r : (Bool × Unit)) : List RV × List RV := ([rv (false, [.bool]) r], [])
def C_l_eqChan : Fns := [(27, .plain, F_l_eqByteS), (139, .plain, F_l_eqEp)]
def F_l_eqChan : Fun1 := funV P_l_eqChan (fun d => (T_l_eqChan d.1 d.2.1).val) O_l_eqChan
def Q_l_eqChan : Loops := fun _ _ => .fail
theorem e_l_eqChan : ∀ d, pcall ⟨lookT tys, ctrOf C_l_eqChan, kindOf C_l_eqChan, 3, 4⟩ 0 Q_l_eqChan Tryz.f69 .plain (mkA P_l_eqChan d) = (T_l_eqChan d.1 d.2.1).run fun r => some (O_l_eqChan r) := fun d => by kernel_rfl
theorem fn_l_eqChan : Fn Tryz.prog 69 .plain F_l_eqChan := fn_of (cfgOk_of mixed tys_ok (show FnsOk Tryz.prog C_l_eqChan from ⟨fn_l_eqByteS, fn_l_eqEp, trivial⟩)) Tryz.func69 (by kernel_rfl) (by kernel_rfl) (fun cx b hp hb => all_of (by kernel_rfl : loopsOf (Tryz.f69.body.getD .skip) = []) trivial b hb) (R := (Bool × Unit)) (T := fun (d : aden P_l_eqChan) => T_l_eqChan d.1 d.2.1) e_l_eqChan
def P_l_eqTimer : List (Bool × List Sh) := [(true, h_1), (true, h_1)]
def O_l_eqTimer (r : (Bool × Unit)) : List RV × List RV := ([rv (false, [.bool]) r], [])
def C_l_eqTimer : Fns := []
def F_l_eqTimer : Fun1 := funV P_l_eqTimer (fun d => (T_l_eqTimer d.1 d.2.1).val) O_l_eqTimer
def Q_l_eqTimer : Loops := fun _ _ => .fail
theorem e_l_eqTimer : ∀ d, pcall ⟨lookT tys, ctrOf C_l_eqTimer, kindOf C_l_eqTimer, 3, 4⟩ 0 Q_l_eqTimer Tryz.f109 .plain (mkA P_l_eqTimer d) = (T_l_eqTimer d.1 d.2.1).run fun r => some (O_l_eqTimer r) := fun d => by kernel_rfl
theorem fn_l_eqTimer : Fn Tryz.prog 109 .plain F_l_eqTimer := fn_of (cfgOk_of mixed tys_ok (show FnsOk Tryz.prog C_l_eqTimer from trivial)) Tryz.func109 (by kernel_rfl) (by kernel_rfl) (fun cx b hp hb => all_of (by kernel_rfl : loopsOf (Tryz.f109.body.getD .skip) = []) trivial b hb) (R := (Bool × Unit)) (T := fun (d : aden P_l_eqTimer) => T_l_eqTimer d.1 d.2.1) e_l_eqTimer
def P_l_eqClient : List (Bool × List Sh) := [(true, h_14), (true, h_14)]
def O_l_eqClient (r : (Bool × Unit)) : List RV × List RV := ([rv (false, [.bool]) r], [])
def C_l_eqClient : Fns := [(27, .plain, F_l_eqByteS), (108, .plain, F_l_eqAddr), (28, .plain, F_l_eqFrame), (69, .plain, F_l_eqChan), (109, .plain, F_l_eqTimer)]
def F_l_eqClient : Fun1 := funV P_l_eqClient (fun d => (T_l_eqClient d.1 d.2.1).val) O_l_eqClient
def Q_l_eqClient : Loops := fun _ _ => .fail
theorem e_l_eqClient : ∀ d, pcall ⟨lookT tys, ctrOf C_l_eqClient, kindOf C_l_eqClient, 3, 4⟩ 0 Q_l_eqClient Tryz.f36 .plain (mkA P_l_eqClient d) = (T_l_eqClient d.1 d.2.1).run fun r => some (O_l_eqClient r) := fun d => by kernel_rfl
theorem fn_l_eqClient : Fn Tryz.prog 36 .plain F_l_eqClient := fn_of (cfgOk_of mixed tys_ok (show FnsOk Tryz.prog C_l_eqClient from ⟨fn_l_eqByteS, fn_l_eqAddr, fn_l_eqFrame, fn_l_eqChan, fn_l_eqTimer, trivial⟩)) Tryz.func36 (by kernel_rfl) (by kernel_rfl) (fun cx b hp hb => all_of (by kernel_rfl : loopsOf (Tryz.f36.body.getD .skip) = []) trivial b hb) (R := (Bool × Unit)) (T := fun (d : aden P_l_eqClient) => T_l_eqClient d.1 d.2.1) e_l_eqClient
def P_l_eqFrameS : List (Bool × List Sh) := [(false, [.sl 74 h_9]), (false, [.sl 74 h_9])]
def O_l_eqFrameS (r : (Bool × Unit)) : List RV × List RV := ([rv (false, [.bool]) r], [])
def C_l_eqFrameS : Fns := [(28, .plain, F_l_eqFrame)]
def F_l_eqFrameS : Fun1 := funV P_l_eqFrameS (fun d => (T_l_eqFrameS d.1 d.2.1).val) O_l_eqFrameS
def K_l_eqFrameS_4 : Sk := ⟨[(0, .v false [(.sl 74 h_9, .ro)]), (1, .v false [(.sl 74 h_9, .ro)]), (5, .v false [(.int .i64, .nil)])], [], []⟩
def X_l_eqFrameS_4 : List (Ex × Sk) := [(.ret, ⟨[(4, .v false [(.bool, .nil)])], [], []⟩), ((.exit 0), ⟨[], [], []⟩)]
def Q_l_eqFrameS : Loops := fun i st => cond (Nat.beq i 4) (lam K_l_eqFrameS_4 5000000 X_l_eqFrameS_4 B_l_eqFrameS_4 st) <| .fail
theorem lp_l_eqFrameS_4 : ∀ d, bod ⟨lookT tys, ctrOf C_l_eqFrameS, kindOf C_l_eqFrameS, 3, 4⟩ 0 Tryz.f37.ntmps Q_l_eqFrameS (nthLoop Tryz.f37 0) K_l_eqFrameS_4 5000000 X_l_eqFrameS_4 d = B_l_eqFrameS_4 d := fun d => by kernel_rfl
theorem lo_l_eqFrameS_4 (cx : Cx) (hp : cx.pin.length ≤ 0) : LoopOk Tryz.prog cx Tryz.f37.ntmps Q_l_eqFrameS (nthLoop Tryz.f37 0) := loop_of (cfgOk_of mixed tys_ok (show FnsOk Tryz.prog C_l_eqFrameS from ⟨fn_l_eqFrame, trivial⟩)) hp (all_of (by kernel_rfl : loopsOf (nthLoop Tryz.f37 0) = []) trivial) (by kernel_rfl) lp_l_eqFrameS_4
theorem e_l_eqFrameS : ∀ d, pcall ⟨lookT tys, ctrOf C_l_eqFrameS, kindOf C_l_eqFrameS, 3, 4⟩ 0 Q_l_eqFrameS Tryz.f37 .plain (mkA P_l_eqFrameS d) = (T_l_eqFrameS d.1 d.2.1).run fun r => some (O_l_eqFrameS r) := fun d => by kernel_rfl
theorem fn_l_eqFrameS : Fn Tryz.prog 37 .plain F_l_eqFrameS := fn_of (cfgOk_of mixed tys_ok (show FnsOk Tryz.prog C_l_eqFrameS from ⟨fn_l_eqFrame, trivial⟩)) Tryz.func37 (by kernel_rfl) (by kernel_rfl) (fun cx b hp hb => all_of (by kernel_rfl : loopsOf (Tryz.f37.body.getD .skip) = [nthLoop Tryz.f37 0]) ⟨lo_l_eqFrameS_4 cx hp, trivial⟩ b hb) (R := (Bool × Unit)) (T := fun (d : aden P_l_eqFrameS) => T_l_eqFrameS d.1 d.2.1) e_l_eqFrameS
def P_l_eqNote : List (Bool × List Sh) := [(true, h_8), (true, h_8)]
def O_l_eqNote (r : (Bool × Unit)) : List RV × List RV := ([rv (false, [.bool]) r], [])
def C_l_eqNote : Fns := [(27, .plain, F_l_eqByteS), (108, .plain, F_l_eqAddr)]
def F_l_eqNote : Fun1 := funV P_l_eqNote (fun d => (T_l_eqNote d.1 d.2.1).val) O_l_eqNote
def Q_l_eqNote : Loops := fun _ _ => .fail
theorem e_l_eqNote : ∀ d, pcall ⟨lookT tys, ctrOf C_l_eqNote, kindOf C_l_eqNote, 3, 4⟩ 0 Q_l_eqNote Tryz.f110 .plain (mkA P_l_eqNote d) = (T_l_eqNote d.1 d.2.1).run fun r => some (O_l_eqNote r) := fun d => by kernel_rfl
theorem fn_l_eqNote : Fn Tryz.prog 110 .plain F_l_eqNote := fn_of (cfgOk_of mixed tys_ok (show FnsOk Tryz.prog C_l_eqNote from ⟨fn_l_eqByteS, fn_l_eqAddr, trivial⟩)) Tryz.func110 (by kernel_rfl) (by kernel_rfl) (fun cx b hp hb => all_of (by kernel_rfl : loopsOf (Tryz.f110.body.getD .skip) = []) trivial b hb) (R := (Bool × Unit)) (T := fun (d : aden P_l_eqNote) => T_l_eqNote d.1 d.2.1) e_l_eqNote
def P_l_eqNoteS : List (Bool × List Sh) := [(false, [.sl 145 h_8]), (false, [.sl 145 h_8])]
def O_l_eqNoteS (r : (Bool × Unit)) : List RV × List RV := ([rv (false, [.bool]) r], [])
def C_l_eqNoteS : Fns := [(110, .plain, F_l_eqNote)]
def F_l_eqNoteS : Fun1 := funV P_l_eqNoteS (fun d => (T_l_eqNoteS d.1 d.2.1).val) O_l_eqNoteS
def K_l_eqNoteS_4 : Sk := ⟨[(0, .v false [(.sl 145 h_8, .ro)]), (1, .v false [(.sl 145 h_8, .ro)]), (5, .v false [(.int .i64, .nil)])], [], []⟩
def X_l_eqNoteS_4 : List (Ex × Sk) := [(.ret, ⟨[(4, .v false [(.bool, .nil)])], [], []⟩), ((.exit 0), ⟨[], [], []⟩)]
def Q_l_eqNoteS : Loops := fun i st => cond (Nat.beq i 4) (lam K_l_eqNoteS_4 5000000 X_l_eqNoteS_4 B_l_eqNoteS_4 st) <| .fail
theorem lp_l_eqNoteS_4 : ∀ d, bod ⟨lookT tys, ctrOf C_l_eqNoteS, kindOf C_l_eqNoteS, 3, 4⟩ 0 Tryz.f38.ntmps Q_l_eqNoteS (nthLoop Tryz.f38 0) K_l_eqNoteS_4 5000000 X_l_eqNoteS_4 d = B_l_eqNoteS_4 d := fun d => by kernel_rfl
theorem lo_l_eqNoteS_4 (cx : Cx) (hp : cx.pin.length ≤ 0) : LoopOk Tryz.prog cx Tryz.f38.ntmps Q_l_eqNoteS (nthLoop Tryz.f38 0) := loop_of (cfgOk_of mixed tys_ok (show FnsOk Tryz.prog C_l_eqNoteS from ⟨fn_l_eqNote, trivial⟩)) hp (all_of (by kernel_rfl : loopsOf (nthLoop Tryz.f38 0) = []) trivial) (by kernel_rfl) lp_l_eqNoteS_4
theorem e_l_eqNoteS : ∀ d, pcall ⟨lookT tys, ctrOf C_l_eqNoteS, kindOf C_l_eqNoteS, 3, 4⟩ 0 Q_l_eqNoteS Tryz.f38 .plain (mkA P_l_eqNoteS d) = (T_l_eqNoteS d.1 d.2.1).run fun r => some (O_l_eqNoteS r) := fun d => by kernel_rfl
theorem fn_l_eqNoteS : Fn Tryz.prog 38 .plain F_l_eqNoteS := fn_of (cfgOk_of mixed tys_ok (show FnsOk Tryz.prog C_l_eqNoteS from ⟨fn_l_eqNote, trivial⟩)) Tryz.func38 (by kernel_rfl) (by kernel_rfl) (fun cx b hp hb => all_of (by kernel_rfl : loopsOf (Tryz.f38.body.getD .skip) = [nthLoop Tryz.f38 0]) ⟨lo_l_eqNoteS_4 cx hp, trivial⟩ b hb) (R := (Bool × Unit)) (T := fun (d : aden P_l_eqNoteS) => T_l_eqNoteS d.1 d.2.1) e_l_eqNoteS
def P_l_markByteS : List (Bool × List Sh) := [(false, [.sl 5 [.int .u8]]), (false, [.int .i64])]
def O_l_markByteS (r : (YI) × (YBs)) : List RV × List RV := ([rv (false, [.int .i64]) r.1], [rv (false, [.sl 5 [.int .u8]]) r.2])
def C_l_markByteS : Fns := []
def F_l_markByteS : Fun1 := funV P_l_markByteS (fun d => (T_l_markByteS d.1 d.2.1).val) O_l_markByteS
def K_l_markByteS_2 : Sk := ⟨[(0, .v false [(.sl 5 [.int .u8], (.own 3000000))]), (1, .v false [(.int .i64, .nil)]), (5, .v false [(.int .i64, .nil)])], [], [3000000]⟩
def X_l_markByteS_2 : List (Ex × Sk) := [((.exit 0), ⟨[(0, .v false [(.sl 5 [.int .u8], (.own 3000000))]), (1, .v false [(.int .i64, .nil)])], [], [3000000]⟩)]
def Q_l_markByteS : Loops := fun i st => cond (Nat.beq i 2) (lam K_l_markByteS_2 3000000 X_l_markByteS_2 B_l_markByteS_2 st) <| .fail
theorem lp_l_markByteS_2 : ∀ d, bod ⟨lookT tys, ctrOf C_l_markByteS, kindOf C_l_markByteS, 3, 4⟩ 1 Tryz.f29.ntmps Q_l_markByteS (nthLoop Tryz.f29 0) K_l_markByteS_2 3000000 X_l_markByteS_2 d = B_l_markByteS_2 d := fun d => by kernel_rfl
theorem lo_l_markByteS_2 (cx : Cx) (hp : cx.pin.length ≤ 1) : LoopOk Tryz.prog cx Tryz.f29.ntmps Q_l_markByteS (nthLoop Tryz.f29 0) := loop_of (cfgOk_of mixed tys_ok (show FnsOk Tryz.prog C_l_markByteS from trivial)) hp (all_of (by kernel_rfl : loopsOf (nthLoop Tryz.f29 0) = []) trivial) (by kernel_rfl) lp_l_markByteS_2
theorem e_l_markByteS : ∀ d, pcall ⟨lookT tys, ctrOf C_l_markByteS, kindOf C_l_markByteS, 3, 4⟩ 1 Q_l_markByteS Tryz.f29 (.lend [1]) (mkA P_l_markByteS d) = (T_l_markByteS d.1 d.2.1).run fun r => some (O_l_markByteS r) := fun d => by kernel_rfl
theorem fn_l_markByteS : Fn Tryz.prog 29 (.lend [1]) F_l_markByteS := fn_of (cfgOk_of mixed tys_ok (show FnsOk Tryz.prog C_l_markByteS from trivial)) Tryz.func29 (by kernel_rfl) (by kernel_rfl) (fun cx b hp hb => all_of (by kernel_rfl : loopsOf (Tryz.f29.body.getD .skip) = [nthLoop Tryz.f29 0]) ⟨lo_l_markByteS_2 cx hp, trivial⟩ b hb) (R := (YI) × (YBs)) (T := fun (d : aden P_l_markByteS) => T_l_markByteS d.1 d.2.1) e_l_markByteS
def P_l_markFrame : List (Bool × List Sh) := [(true, h_9), (false, [.int .i64])]
def O_l_markFrame (r : (YI) × (YFrame)) : List RV × List RV := ([rv (false, [.int .i64]) r.1], [rv (true, h_9) r.2])
def C_l_markFrame : Fns := [(29, (.lend [1]), F_l_markByteS)]
def F_l_markFrame : Fun1 := funV P_l_markFrame (fun d => (T_l_markFrame d.1 d.2.1).val) O_l_markFrame
def Q_l_markFrame : Loops := fun _ _ => .fail
theorem e_l_markFrame : ∀ d, pcall ⟨lookT tys, ctrOf C_l_markFrame, kindOf C_l_markFrame, 3, 4⟩ 1 Q_l_markFrame Tryz.f30 (.lend [1]) (mkA P_l_markFrame d) = (T_l_markFrame d.1 d.2.1).run fun r => some (O_l_markFrame r) := fun d => by kernel_rfl
theorem fn_l_markFrame : Fn Tryz.prog 30 (.lend [1]) F_l_markFrame := fn_of (cfgOk_of mixed tys_ok (show FnsOk Tryz.prog C_l_markFrame from ⟨fn_l_markByteS, trivial⟩)) Tryz.func30 (by kernel_rfl) (by kernel_rfl) (fun cx b hp hb => all_of (by kernel_rfl : loopsOf (Tryz.f30.body.getD .skip) = []) trivial b hb) (R := (YI) × (YFrame)) (T := fun (d : aden P_l_markFrame) => T_l_markFrame d.1 d.2.1) e_l_markFrame
def P_l_markIntS : List (Bool × List Sh) := [(false, [.sl 3 [.int .i64]]), (false, [.int .i64])]
def O_l_markIntS (r : (YI) × ((List YI) × Unit)) : List RV × List RV := ([rv (false, [.int .i64]) r.1], [rv (false, [.sl 3 [.int .i64]]) r.2])
def C_l_markIntS : Fns := []
def F_l_markIntS : Fun1 := funV P_l_markIntS (fun d => (T_l_markIntS d.1 d.2.1).val) O_l_markIntS
def K_l_markIntS_2 : Sk := ⟨[(0, .v false [(.sl 3 [.int .i64], (.own 3000000))]), (1, .v false [(.int .i64, .nil)]), (5, .v false [(.int .i64, .nil)])], [], [3000000]⟩
def X_l_markIntS_2 : List (Ex × Sk) := [((.exit 0), ⟨[(0, .v false [(.sl 3 [.int .i64], (.own 3000000))]), (1, .v false [(.int .i64, .nil)])], [], [3000000]⟩)]
def Q_l_markIntS : Loops := fun i st => cond (Nat.beq i 2) (lam K_l_markIntS_2 3000000 X_l_markIntS_2 B_l_markIntS_2 st) <| .fail
theorem lp_l_markIntS_2 : ∀ d, bod ⟨lookT tys, ctrOf C_l_markIntS, kindOf C_l_markIntS, 3, 4⟩ 1 Tryz.f141.ntmps Q_l_markIntS (nthLoop Tryz.f141 0) K_l_markIntS_2 3000000 X_l_markIntS_2 d = B_l_markIntS_2 d := fun d => by kernel_rfl
theorem lo_l_markIntS_2 (cx : Cx) (hp : cx.pin.length ≤ 1) : LoopOk Tryz.prog cx Tryz.f141.ntmps Q_l_markIntS (nthLoop Tryz.f141 0) := loop_of (cfgOk_of mixed tys_ok (show FnsOk Tryz.prog C_l_markIntS from trivial)) hp (all_of (by kernel_rfl : loopsOf (nthLoop Tryz.f141 0) = []) trivial) (by kernel_rfl) lp_l_markIntS_2
theorem e_l_markIntS : ∀ d, pcall ⟨lookT tys, ctrOf C_l_markIntS, kindOf C_l_markIntS, 3, 4⟩ 1 Q_l_markIntS Tryz.f141 (.lend [1]) (mkA P_l_markIntS d) = (T_l_markIntS d.1 d.2.1).run fun r => some (O_l_markIntS r) := fun d => by kernel_rfl
theorem fn_l_markIntS : Fn Tryz.prog 141 (.lend [1]) F_l_markIntS := fn_of (cfgOk_of mixed tys_ok (show FnsOk Tryz.prog C_l_markIntS from trivial)) Tryz.func141 (by kernel_rfl) (by kernel_rfl) (fun cx b hp hb => all_of (by kernel_rfl : loopsOf (Tryz.f141.body.getD .skip) = [nthLoop Tryz.f141 0]) ⟨lo_l_markIntS_2 cx hp, trivial⟩ b hb) (R := (YI) × ((List YI) × Unit)) (T := fun (d : aden P_l_markIntS) => T_l_markIntS d.1 d.2.1) e_l_markIntS
def P_l_markWin : List (Bool × List Sh) := [(true, [.int .i64, .sl 3 [.int .i64]]), (false, [.int .i64])]
def O_l_markWin (r : (YI) × (YWin)) : List RV × List RV := ([rv (false, [.int .i64]) r.1], [rv (true, [.int .i64, .sl 3 [.int .i64]]) r.2])
def C_l_markWin : Fns := [(141, (.lend [1]), F_l_markIntS)]
def F_l_markWin : Fun1 := funV P_l_markWin (fun d => (T_l_markWin d.1 d.2.1).val) O_l_markWin
def Q_l_markWin : Loops := fun _ _ => .fail
theorem e_l_markWin : ∀ d, pcall ⟨lookT tys, ctrOf C_l_markWin, kindOf C_l_markWin, 3, 4⟩ 1 Q_l_markWin Tryz.f198 (.lend [1]) (mkA P_l_markWin d) = (T_l_markWin d.1 d.2.1).run fun r => some (O_l_markWin r) := fun d => by kernel_rfl
theorem fn_l_markWin : Fn Tryz.prog 198 (.lend [1]) F_l_markWin := fn_of (cfgOk_of mixed tys_ok (show FnsOk Tryz.prog C_l_markWin from ⟨fn_l_markIntS, trivial⟩)) Tryz.func198 (by kernel_rfl) (by kernel_rfl) (fun cx b hp hb => all_of (by kernel_rfl : loopsOf (Tryz.f198.body.getD .skip) = []) trivial b hb) (R := (YI) × (YWin)) (T := fun (d : aden P_l_markWin) => T_l_markWin d.1 d.2.1) e_l_markWin
def P_l_markEp : List (Bool × List Sh) := [(true, h_5), (false, [.int .i64])]
def O_l_markEp (r : (YI) × (YEp)) : List RV × List RV := ([rv (false, [.int .i64]) r.1], [rv (true, h_5) r.2])
def C_l_markEp : Fns := [(29, (.lend [1]), F_l_markByteS), (198, (.lend [1]), F_l_markWin)]
def F_l_markEp : Fun1 := funV P_l_markEp (fun d => (T_l_markEp d.1 d.2.1).val) O_l_markEp
def Q_l_markEp : Loops := fun _ _ => .fail
theorem e_l_markEp : ∀ d, pcall ⟨lookT tys, ctrOf C_l_markEp, kindOf C_l_markEp, 3, 4⟩ 1 Q_l_markEp Tryz.f143 (.lend [1]) (mkA P_l_markEp d) = (T_l_markEp d.1 d.2.1).run fun r => some (O_l_markEp r) := fun d => by kernel_rfl
theorem fn_l_markEp : Fn Tryz.prog 143 (.lend [1]) F_l_markEp := fn_of (cfgOk_of mixed tys_ok (show FnsOk Tryz.prog C_l_markEp from ⟨fn_l_markByteS, fn_l_markWin, trivial⟩)) Tryz.func143 (by kernel_rfl) (by kernel_rfl) (fun cx b hp hb => all_of (by kernel_rfl : loopsOf (Tryz.f143.body.getD .skip) = []) trivial b hb) (R := (YI) × (YEp)) (T := fun (d : aden P_l_markEp) => T_l_markEp d.1 d.2.1) e_l_markEp
def P_l_markChan : List (Bool × List Sh) := [(true, h_10), (false, [.int .i64])]
def O_l_markChan (r : (YI) × (YChan)) : List RV × List RV := ([rv (false, [.int .i64]) r.1], [rv (true, h_10) r.2])
def C_l_markChan : Fns := [(29, (.lend [1]), F_l_markByteS), (143, (.lend [1]), F_l_markEp)]
def F_l_markChan : Fun1 := funV P_l_markChan (fun d => (T_l_markChan d.1 d.2.1).val) O_l_markChan
def Q_l_markChan : Loops := fun _ _ => .fail
theorem e_l_markChan : ∀ d, pcall ⟨lookT tys, ctrOf C_l_markChan, kindOf C_l_markChan, 3, 4⟩ 1 Q_l_markChan Tryz.f72 (.lend [1]) (mkA P_l_markChan d) = (T_l_markChan d.1 d.2.1).run fun r => some (O_l_markChan r) := fun d => by kernel_rfl
theorem fn_l_markChan : Fn Tryz.prog 72 (.lend [1]) F_l_markChan := fn_of (cfgOk_of mixed tys_ok (show FnsOk Tryz.prog C_l_markChan from ⟨fn_l_markByteS, fn_l_markEp, trivial⟩)) Tryz.func72 (by kernel_rfl) (by kernel_rfl) (fun cx b hp hb => all_of (by kernel_rfl : loopsOf (Tryz.f72.body.getD .skip) = []) trivial b hb) (R := (YI) × (YChan)) (T := fun (d : aden P_l_markChan) => T_l_markChan d.1 d.2.1) e_l_markChan
def P_l_markClient : List (Bool × List Sh) := [(true, h_14), (false, [.int .i64])]
def O_l_markClient (r : (YI) × (YClient)) : List RV × List RV := ([rv (false, [.int .i64]) r.1], [rv (true, h_14) r.2])
def C_l_markClient : Fns := [(29, (.lend [1]), F_l_markByteS), (30, (.lend [1]), F_l_markFrame), (72, (.lend [1]), F_l_markChan)]
def F_l_markClient : Fun1 := funV P_l_markClient (fun d => (T_l_markClient d.1 d.2.1).val) O_l_markClient
def Q_l_markClient : Loops := fun _ _ => .fail
theorem e_l_markClient : ∀ d, pcall ⟨lookT tys, ctrOf C_l_markClient, kindOf C_l_markClient, 3, 4⟩ 1 Q_l_markClient Tryz.f39 (.lend [1]) (mkA P_l_markClient d) = (T_l_markClient d.1 d.2.1).run fun r => some (O_l_markClient r) := fun d => by kernel_rfl
theorem fn_l_markClient : Fn Tryz.prog 39 (.lend [1]) F_l_markClient := fn_of (cfgOk_of mixed tys_ok (show FnsOk Tryz.prog C_l_markClient from ⟨fn_l_markByteS, fn_l_markFrame, fn_l_markChan, trivial⟩)) Tryz.func39 (by kernel_rfl) (by kernel_rfl) (fun cx b hp hb => all_of (by kernel_rfl : loopsOf (Tryz.f39.body.getD .skip) = []) trivial b hb) (R := (YI) × (YClient)) (T := fun (d : aden P_l_markClient) => T_l_markClient d.1 d.2.1) e_l_markClient
def P_l_markFrameS : List (Bool × List Sh) := [(false, [.sl 74 h_9]), (false, [.int .i64])]
def O_l_markFrameS (r : (YI) × ((List YFrame) × Unit)) : List RV × List RV := ([rv (false, [.int .i64]) r.1], [rv (false, [.sl 74 h_9]) r.2])
def C_l_markFrameS : Fns := [(29, (.lend [1]), F_l_markByteS)]
def F_l_markFrameS : Fun1 := funV P_l_markFrameS (fun d => (T_l_markFrameS d.1 d.2.1).val) O_l_markFrameS
def K_l_markFrameS_2 : Sk := ⟨[(0, .v false [(.sl 74 h_9, (.own 3000000))]), (1, .v false [(.int .i64, .nil)]), (5, .v false [(.int .i64, .nil)])], [], [3000000]⟩
def X_l_markFrameS_2 : List (Ex × Sk) := [((.exit 0), ⟨[(0, .v false [(.sl 74 h_9, (.own 3000000))]), (1, .v false [(.int .i64, .nil)])], [], [3000000]⟩)]
def Q_l_markFrameS : Loops := fun i st => cond (Nat.beq i 2) (lam K_l_markFrameS_2 3000000 X_l_markFrameS_2 B_l_markFrameS_2 st) <| .fail
theorem lp_l_markFrameS_2 : ∀ d, bod ⟨lookT tys, ctrOf C_l_markFrameS, kindOf C_l_markFrameS, 3, 4⟩ 1 Tryz.f40.ntmps Q_l_markFrameS (nthLoop Tryz.f40 0) K_l_markFrameS_2 3000000 X_l_markFrameS_2 d = B_l_markFrameS_2 d := fun d => by kernel_rfl
theorem lo_l_markFrameS_2 (cx : Cx) (hp : cx.pin.length ≤ 1) : LoopOk Tryz.prog cx Tryz.f40.ntmps Q_l_markFrameS (nthLoop Tryz.f40 0) := loop_of (cfgOk_of mixed tys_ok (show FnsOk Tryz.prog C_l_markFrameS from ⟨fn_l_markByteS, trivial⟩)) hp (all_of (by kernel_rfl : loopsOf (nthLoop Tryz.f40 0) = []) trivial) (by kernel_rfl) lp_l_markFrameS_2
theorem e_l_markFrameS : ∀ d, pcall ⟨lookT tys, ctrOf C_l_markFrameS, kindOf C_l_markFrameS, 3, 4⟩ 1 Q_l_markFrameS Tryz.f40 (.lend [1]) (mkA P_l_markFrameS d) = (T_l_markFrameS d.1 d.2.1).run fun r => some (O_l_markFrameS r) := fun d => by kernel_rfl
theorem fn_l_markFrameS : Fn Tryz.prog 40 (.lend [1]) F_l_markFrameS := fn_of (cfgOk_of mixed tys_ok (show FnsOk Tryz.prog C_l_markFrameS from ⟨fn_l_markByteS, trivial⟩)) Tryz.func40 (by kernel_rfl) (by kernel_rfl) (fun cx b hp hb => all_of (by kernel_rfl : loopsOf (Tryz.f40.body.getD .skip) = [nthLoop Tryz.f40 0]) ⟨lo_l_markFrameS_2 cx hp, trivial⟩ b hb) (R := (YI) × ((List YFrame) × Unit)) (T := fun (d : aden P_l_markFrameS) => T_l_markFrameS d.1 d.2.1) e_l_markFrameS
def P_l_markNoteS : List (Bool × List Sh) := [(false, [.sl 145 h_8]), (false, [.int .i64])]
def O_l_markNoteS (r : (YI) × ((List YNote) × Unit)) : List RV × List RV := ([rv (false, [.int .i64]) r.1], [rv (false, [.sl 145 h_8]) r.2])
def C_l_markNoteS : Fns := [(29, (.lend [1]), F_l_markByteS)]
def F_l_markNoteS : Fun1 := funV P_l_markNoteS (fun d => (T_l_markNoteS d.1 d.2.1).val) O_l_markNoteS
def K_l_markNoteS_2 : Sk := ⟨[(0, .v false [(.sl 145 h_8, (.own 3000000))]), (1, .v false [(.int .i64, .nil)]), (5, .v false [(.int .i64, .nil)])], [], [3000000]⟩
def X_l_markNoteS_2 : List (Ex × Sk) := [((.exit 0), ⟨[(0, .v false [(.sl 145 h_8, (.own 3000000))]), (1, .v false [(.int .i64, .nil)])], [], [3000000]⟩)]
def Q_l_markNoteS : Loops := fun i st => cond (Nat.beq i 2) (lam K_l_markNoteS_2 3000000 X_l_markNoteS_2 B_l_markNoteS_2 st) <| .fail
theorem lp_l_markNoteS_2 : ∀ d, bod ⟨lookT tys, ctrOf C_l_markNoteS, kindOf C_l_markNoteS, 3, 4⟩ 1 Tryz.f41.ntmps Q_l_markNoteS (nthLoop Tryz.f41 0) K_l_markNoteS_2 3000000 X_l_markNoteS_2 d = B_l_markNoteS_2 d := fun d => by kernel_rfl
theorem lo_l_markNoteS_2 (cx : Cx) (hp : cx.pin.length ≤ 1) : LoopOk Tryz.prog cx Tryz.f41.ntmps Q_l_markNoteS (nthLoop Tryz.f41 0) := loop_of (cfgOk_of mixed tys_ok (show FnsOk Tryz.prog C_l_markNoteS from ⟨fn_l_markByteS, trivial⟩)) hp (all_of (by kernel_rfl : loopsOf (nthLoop Tryz.f41 0) = []) trivial) (by kernel_rfl) lp_l_markNoteS_2
theorem e_l_markNoteS : ∀ d, pcall ⟨lookT tys, ctrOf C_l_markNoteS, kindOf C_l_markNoteS, 3, 4⟩ 1 Q_l_markNoteS Tryz.f41 (.lend [1]) (mkA P_l_markNoteS d) = (T_l_markNoteS d.1 d.2.1).run fun r => some (O_l_markNoteS r) := fun d => by kernel_rfl
theorem fn_l_markNoteS : Fn Tryz.prog 41 (.lend [1]) F_l_markNoteS := fn_of (cfgOk_of mixed tys_ok (show FnsOk Tryz.prog C_l_markNoteS from ⟨fn_l_markByteS, trivial⟩)) Tryz.func41 (by kernel_rfl) (by kernel_rfl) (fun cx b hp hb => all_of (by kernel_rfl : loopsOf (Tryz.f41.body.getD .skip) = [nthLoop Tryz.f41 0]) ⟨lo_l_markNoteS_2 cx hp, trivial⟩ b hb) (R := (YI) × ((List YNote) × Unit)) (T := fun (d : aden P_l_markNoteS) => T_l_markNoteS d.1 d.2.1) e_l_markNoteS
def P_l_heldByteS : List (Bool × List Sh) := [(false, [.sl 5 [.int .u8]]), (false, [.int .i64])]
def O_l_heldByteS (r : (YI)) : List RV × List RV := ([rv (false, [.int .i64]) r], [])
def C_l_heldByteS : Fns := []
def F_l_heldByteS : Fun1 := funV P_l_heldByteS (fun d => (T_l_heldByteS d.1 d.2.1).val) O_l_heldByteS
def K_l_heldByteS_2 : Sk := ⟨[(0, .v false [(.sl 5 [.int .u8], .ro)]), (1, .v false [(.int .i64, .nil)]), (5, .v false [(.int .i64, .nil)])], [], []⟩
def X_l_heldByteS_2 : List (Ex × Sk) := [(.ret, ⟨[(4, .v false [(.int .i64, .nil)])], [], []⟩), ((.exit 0), ⟨[(1, .v false [(.int .i64, .nil)])], [], []⟩)]
def Q_l_heldByteS : Loops := fun i st => cond (Nat.beq i 2) (lam K_l_heldByteS_2 3000000 X_l_heldByteS_2 B_l_heldByteS_2 st) <| .fail
theorem lp_l_heldByteS_2 : ∀ d, bod ⟨lookT tys, ctrOf C_l_heldByteS, kindOf C_l_heldByteS, 3, 4⟩ 0 Tryz.f95.ntmps Q_l_heldByteS (nthLoop Tryz.f95 0) K_l_heldByteS_2 3000000 X_l_heldByteS_2 d = B_l_heldByteS_2 d := fun d => by kernel_rfl
theorem lo_l_heldByteS_2 (cx : Cx) (hp : cx.pin.length ≤ 0) : LoopOk Tryz.prog cx Tryz.f95.ntmps Q_l_heldByteS (nthLoop Tryz.f95 0) := loop_of (cfgOk_of mixed tys_ok (show FnsOk Tryz.prog C_l_heldByteS from trivial)) hp (all_of (by kernel_rfl : loopsOf (nthLoop Tryz.f95 0) = []) trivial) (by kernel_rfl) lp_l_heldByteS_2
theorem e_l_heldByteS : ∀ d, pcall ⟨lookT tys, ctrOf C_l_heldByteS, kindOf C_l_heldByteS, 3, 4⟩ 0 Q_l_heldByteS Tryz.f95 .plain (mkA P_l_heldByteS d) = (T_l_heldByteS d.1 d.2.1).run fun r => some (O_l_heldByteS r) := fun d => by kernel_rfl
theorem fn_l_heldByteS : Fn Tryz.prog 95 .plain F_l_heldByteS := fn_of (cfgOk_of mixed tys_ok (show FnsOk Tryz.prog C_l_heldByteS from trivial)) Tryz.func95 (by kernel_rfl) (by kernel_rfl) (fun cx b hp hb => all_of (by kernel_rfl : loopsOf (Tryz.f95.body.getD .skip) = [nthLoop Tryz.f95 0]) ⟨lo_l_heldByteS_2 cx hp, trivial⟩ b hb) (R := (YI)) (T := fun (d : aden P_l_heldByteS) => T_l_heldByteS d.1 d.2.1) e_l_heldByteS
def P_l_heldFrame : List (Bool × List Sh) := [(true, h_9), (false, [.int .i64])]
def O_l_heldFrame (r : (YI)) : List RV × List RV := ([rv (false, [.int .i64]) r], [])
def C_l_heldFrame : Fns := [(95, .plain, F_l_heldByteS)]
def F_l_heldFrame : Fun1 := funV P_l_heldFrame (fun d => (T_l_heldFrame d.1 d.2.1).val) O_l_heldFrame
def Q_l_heldFrame : Loops := fun _ _ => .fail
theorem e_l_heldFrame : ∀ d, pcall ⟨lookT tys, ctrOf C_l_heldFrame, kindOf C_l_heldFrame, 3, 4⟩ 0 Q_l_heldFrame Tryz.f111 .plain (mkA P_l_heldFrame d) = (T_l_heldFrame d.1 d.2.1).run fun r => some (O_l_heldFrame r) := fun d => by kernel_rfl
theorem fn_l_heldFrame : Fn Tryz.prog 111 .plain F_l_heldFrame := fn_of (cfgOk_of mixed tys_ok (show FnsOk Tryz.prog C_l_heldFrame from ⟨fn_l_heldByteS, trivial⟩)) Tryz.func111 (by kernel_rfl) (by kernel_rfl) (fun cx b hp hb => all_of (by kernel_rfl : loopsOf (Tryz.f111.body.getD .skip) = []) trivial b hb) (R := (YI)) (T := fun (d : aden P_l_heldFrame) => T_l_heldFrame d.1 d.2.1) e_l_heldFrame
def P_l_heldIntS : List (Bool × List Sh) := [(false, [.sl 3 [.int .i64]]), (false, [.int .i64])]
def O_l_heldIntS (r : (YI)) : List RV × List RV := ([rv (false, [.int .i64]) r], [])
def C_l_heldIntS : Fns := []
def F_l_heldIntS : Fun1 := funV P_l_heldIntS (fun d => (T_l_heldIntS d.1 d.2.1).val) O_l_heldIntS
def K_l_heldIntS_2 : Sk := ⟨[(0, .v false [(.sl 3 [.int .i64], .ro)]), (1, .v false [(.int .i64, .nil)]), (5, .v false [(.int .i64, .nil)])], [], []⟩
def X_l_heldIntS_2 : List (Ex × Sk) := [(.ret, ⟨[(4, .v false [(.int .i64, .nil)])], [], []⟩), ((.exit 0), ⟨[(1, .v false [(.int .i64, .nil)])], [], []⟩)]
def Q_l_heldIntS : Loops := fun i st => cond (Nat.beq i 2) (lam K_l_heldIntS_2 3000000 X_l_heldIntS_2 B_l_heldIntS_2 st) <| .fail
theorem lp_l_heldIntS_2 : ∀ d, bod ⟨lookT tys, ctrOf C_l_heldIntS, kindOf C_l_heldIntS, 3, 4⟩ 0 Tryz.f144.ntmps Q_l_heldIntS (nthLoop Tryz.f144 0) K_l_heldIntS_2 3000000 X_l_heldIntS_2 d = B_l_heldIntS_2 d := fun d => by kernel_rfl
theorem lo_l_heldIntS_2 (cx : Cx) (hp : cx.pin.length ≤ 0) : LoopOk Tryz.prog cx Tryz.f144.ntmps Q_l_heldIntS (nthLoop Tryz.f144 0) := loop_of (cfgOk_of mixed tys_ok (show FnsOk Tryz.prog C_l_heldIntS from trivial)) hp (all_of (by kernel_rfl : loopsOf (nthLoop Tryz.f144 0) = []) trivial) (by kernel_rfl) lp_l_heldIntS_2
theorem e_l_heldIntS : ∀ d, pcall ⟨lookT tys, ctrOf C_l_heldIntS, kindOf C_l_heldIntS, 3, 4⟩ 0 Q_l_heldIntS Tryz.f144 .plain (mkA P_l_heldIntS d) = (T_l_heldIntS d.1 d.2.1).run fun r => some (O_l_heldIntS r) := fun d => by kernel_rfl
theorem fn_l_heldIntS : Fn Tryz.prog 144 .plain F_l_heldIntS := fn_of (cfgOk_of mixed tys_ok (show FnsOk Tryz.prog C_l_heldIntS from trivial)) Tryz.func144 (by kernel_rfl) (by kernel_rfl) (fun cx b hp hb => all_of (by kernel_rfl : loopsOf (Tryz.f144.body.getD .skip) = [nthLoop Tryz.f144 0]) ⟨lo_l_heldIntS_2 cx hp, trivial⟩ b hb) (R := (YI)) (T := fun (d : aden P_l_heldIntS) => T_l_heldIntS d.1 d.2.1) e_l_heldIntS
def P_l_heldWin : List (Bool × List Sh) := [(true, [.int .i64, .sl 3 [.int .i64]]), (false, [.int .i64])]
def O_l_heldWin (r : (YI)) : List RV × List RV := ([rv (false, [.int .i64]) r], [])
def C_l_heldWin : Fns := [(144, .plain, F_l_heldIntS)]
def F_l_heldWin : Fun1 := funV P_l_heldWin (fun d => (T_l_heldWin d.1 d.2.1).val) O_l_heldWin
def Q_l_heldWin : Loops := fun _ _ => .fail
theorem e_l_heldWin : ∀ d, pcall ⟨lookT tys, ctrOf C_l_heldWin, kindOf C_l_heldWin, 3, 4⟩ 0 Q_l_heldWin Tryz.f209 .plain (mkA P_l_heldWin d) = (T_l_heldWin d.1 d.2.1).run fun r => some (O_l_heldWin r) := fun d => by kernel_rfl
theorem fn_l_heldWin : Fn Tryz.prog 209 .plain F_l_heldWin := fn_of (cfgOk_of mixed tys_ok (show FnsOk Tryz.prog C_l_heldWin from ⟨fn_l_heldIntS, trivial⟩)) Tryz.func209 (by kernel_rfl) (by kernel_rfl) (fun cx b hp hb => all_of (by kernel_rfl : loopsOf (Tryz.f209.body.getD .skip) = []) trivial b hb) (R := (YI)) (T := fun (d : aden P_l_heldWin) => T_l_heldWin d.1 d.2.1) e_l_heldWin
def P_l_heldEp : List (Bool × List Sh) := [(true, h_5), (false, [.int .i64])]
def O_l_heldEp (r : (YI)) : List RV × List RV := ([rv (false, [.int .i64]) r], [])
def C_l_heldEp : Fns := [(95, .plain, F_l_heldByteS), (209, .plain, F_l_heldWin)]
def F_l_heldEp : Fun1 := funV P_l_heldEp (fun d => (T_l_heldEp d.1 d.2.1).val) O_l_heldEp
def Q_l_heldEp : Loops := fun _ _ => .fail
theorem e_l_heldEp : ∀ d, pcall ⟨lookT tys, ctrOf C_l_heldEp, kindOf C_l_heldEp, 3, 4⟩ 0 Q_l_heldEp Tryz.f169 .plain (mkA P_l_heldEp d) = (T_l_heldEp d.1 d.2.1).run fun r => some (O_l_heldEp r) := fun d => by kernel_rfl
theorem fn_l_heldEp : Fn Tryz.prog 169 .plain F_l_heldEp := fn_of (cfgOk_of mixed tys_ok (show FnsOk Tryz.prog C_l_heldEp from ⟨fn_l_heldByteS, fn_l_heldWin, trivial⟩)) Tryz.func169 (by kernel_rfl) (by kernel_rfl) (fun cx b hp hb => all_of (by kernel_rfl : loopsOf (Tryz.f169.body.getD .skip) = []) trivial b hb) (R := (YI)) (T := fun (d : aden P_l_heldEp) => T_l_heldEp d.1 d.2.1) e_l_heldEp
def P_l_heldChan : List (Bool × List Sh) := [(true, h_10), (false, [.int .i64])]
def O_l_heldChan (r : (YI)) : List RV × List RV := ([rv (false, [.int .i64]) r], [])
def C_l_heldChan : Fns := [(95, .plain, F_l_heldByteS), (169, .plain, F_l_heldEp)]
def F_l_heldChan : Fun1 := funV P_l_heldChan (fun d => (T_l_heldChan d.1 d.2.1).val) O_l_heldChan
def Q_l_heldChan : Loops := fun _ _ => .fail
theorem e_l_heldChan : ∀ d, pcall ⟨lookT tys, ctrOf C_l_heldChan, kindOf C_l_heldChan, 3, 4⟩ 0 Q_l_heldChan Tryz.f96 .plain (mkA P_l_heldChan d) = (T_l_heldChan d.1 d.2.1).run fun r => some (O_l_heldChan r) := fun d => by kernel_rfl
theorem fn_l_heldChan : Fn Tryz.prog 96 .plain F_l_heldChan := fn_of (cfgOk_of mixed tys_ok (show FnsOk Tryz.prog C_l_heldChan from ⟨fn_l_heldByteS, fn_l_heldEp, trivial⟩)) Tryz.func96 (by kernel_rfl) (by kernel_rfl) (fun cx b hp hb => all_of (by kernel_rfl : loopsOf (Tryz.f96.body.getD .skip) = []) trivial b hb) (R := (YI)) (T := fun (d : aden P_l_heldChan) => T_l_heldChan d.1 d.2.1) e_l_heldChan
def P_l_heldClient : List (Bool × List Sh) := [(true, h_14), (false, [.int .i64])]
def O_l_heldClient (r : (YI)) : List RV × List RV := ([rv (false, [.int .i64]) r], [])
def C_l_heldClient : Fns := [(95, .plain, F_l_heldByteS), (111, .plain, F_l_heldFrame), (96, .plain, F_l_heldChan)]
def F_l_heldClient : Fun1 := funV P_l_heldClient (fun d => (T_l_heldClient d.1 d.2.1).val) O_l_heldClient
def Q_l_heldClient : Loops := fun _ _ => .fail
theorem e_l_heldClient : ∀ d, pcall ⟨lookT tys, ctrOf C_l_heldClient, kindOf C_l_heldClient, 3, 4⟩ 0 Q_l_heldClient Tryz.f42 .plain (mkA P_l_heldClient d) = (T_l_heldClient d.1 d.2.1).run fun r => some (O_l_heldClient r) := fun d => by kernel_rfl
theorem fn_l_heldClient : Fn Tryz.prog 42 .plain F_l_heldClient := fn_of (cfgOk_of mixed tys_ok (show FnsOk Tryz.prog C_l_heldClient from ⟨fn_l_heldByteS, fn_l_heldFrame, fn_l_heldChan, trivial⟩)) Tryz.func42 (by kernel_rfl) (by kernel_rfl) (fun cx b hp hb => all_of (by kernel_rfl : loopsOf (Tryz.f42.body.getD .skip) = []) trivial b hb) (R := (YI)) (T := fun (d : aden P_l_heldClient) => T_l_heldClient d.1 d.2.1) e_l_heldClient
def P_l_heldFrameS : List (Bool × List Sh) := [(false, [.sl 74 h_9]), (false, [.int .i64])]
def O_l_heldFrameS (r : (YI)) : List RV × List RV := ([rv (false, [.int .i64]) r], [])
def C_l_heldFrameS : Fns := [(95, .plain, F_l_heldByteS)]
def F_l_heldFrameS : Fun1 := funV P_l_heldFrameS (fun d => (T_l_heldFrameS d.1 d.2.1).val) O_l_heldFrameS
def K_l_heldFrameS_2 : Sk := ⟨[(0, .v false [(.sl 74 h_9, .ro)]), (1, .v false [(.int .i64, .nil)]), (5, .v false [(.int .i64, .nil)])], [], []⟩
def X_l_heldFrameS_2 : List (Ex × Sk) := [(.ret, ⟨[(4, .v false [(.int .i64, .nil)])], [], []⟩), ((.exit 0), ⟨[(1, .v false [(.int .i64, .nil)])], [], []⟩)]
def Q_l_heldFrameS : Loops := fun i st => cond (Nat.beq i 2) (lam K_l_heldFrameS_2 3000000 X_l_heldFrameS_2 B_l_heldFrameS_2 st) <| .fail
theorem lp_l_heldFrameS_2 : ∀ d, bod ⟨lookT tys, ctrOf C_l_heldFrameS, kindOf C_l_heldFrameS, 3, 4⟩ 0 Tryz.f43.ntmps Q_l_heldFrameS (nthLoop Tryz.f43 0) K_l_heldFrameS_2 3000000 X_l_heldFrameS_2 d = B_l_heldFrameS_2 d := fun d => by kernel_rfl
theorem lo_l_heldFrameS_2 (cx : Cx) (hp : cx.pin.length ≤ 0) : LoopOk Tryz.prog cx Tryz.f43.ntmps Q_l_heldFrameS (nthLoop Tryz.f43 0) := loop_of (cfgOk_of mixed tys_ok (show FnsOk Tryz.prog C_l_heldFrameS from ⟨fn_l_heldByteS, trivial⟩)) hp (all_of (by kernel_rfl : loopsOf (nthLoop Tryz.f43 0) = []) trivial) (by kernel_rfl) lp_l_heldFrameS_2
theorem e_l_heldFrameS : ∀ d, pcall ⟨lookT tys, ctrOf C_l_heldFrameS, kindOf C_l_heldFrameS, 3, 4⟩ 0 Q_l_heldFrameS Tryz.f43 .plain (mkA P_l_heldFrameS d) = (T_l_heldFrameS d.1 d.2.1).run fun r => some (O_l_heldFrameS r) := fun d => by kernel_rfl
theorem fn_l_heldFrameS : Fn Tryz.prog 43 .plain F_l_heldFrameS := fn_of (cfgOk_of mixed tys_ok (show FnsOk Tryz.prog C_l_heldFrameS from ⟨fn_l_heldByteS, trivial⟩)) Tryz.func43 (by kernel_rfl) (by kernel_rfl) (fun cx b hp hb => all_of (by kernel_rfl : loopsOf (Tryz.f43.body.getD .skip) = [nthLoop Tryz.f43 0]) ⟨lo_l_heldFrameS_2 cx hp, trivial⟩ b hb) (R := (YI)) (T := fun (d : aden P_l_heldFrameS) => T_l_heldFrameS d.1 d.2.1) e_l_heldFrameS
def P_l_heldNoteS : List (Bool × List Sh) := [(false, [.sl 145 h_8]), (false, [.int .i64])]
def O_l_heldNoteS (r : (YI)) : List RV × List RV := ([rv (false, [.int .i64]) r], [])
def C_l_heldNoteS : Fns := [(95, .plain, F_l_heldByteS)]
def F_l_heldNoteS : Fun1 := funV P_l_heldNoteS (fun d => (T_l_heldNoteS d.1 d.2.1).val) O_l_heldNoteS
def K_l_heldNoteS_2 : Sk := ⟨[(0, .v false [(.sl 145 h_8, .ro)]), (1, .v false [(.int .i64, .nil)]), (5, .v false [(.int .i64, .nil)])], [], []⟩
def X_l_heldNoteS_2 : List (Ex × Sk) := [(.ret, ⟨[(4, .v false [(.int .i64, .nil)])], [], []⟩), ((.exit 0), ⟨[(1, .v false [(.int .i64, .nil)])], [], []⟩)]
def Q_l_heldNoteS : Loops := fun i st => cond (Nat.beq i 2) (lam K_l_heldNoteS_2 3000000 X_l_heldNoteS_2 B_l_heldNoteS_2 st) <| .fail
theorem lp_l_heldNoteS_2 : ∀ d, bod ⟨lookT tys, ctrOf C_l_heldNoteS, kindOf C_l_heldNoteS, 3, 4⟩ 0 Tryz.f44.ntmps Q_l_heldNoteS (nthLoop Tryz.f44 0) K_l_heldNoteS_2 3000000 X_l_heldNoteS_2 d = B_l_heldNoteS_2 d := fun d => by kernel_rfl
theorem lo_l_heldNoteS_2 (cx : Cx) (hp : cx.pin.length ≤ 0) : LoopOk Tryz.prog cx Tryz.f44.ntmps Q_l_heldNoteS (nthLoop Tryz.f44 0) := loop_of (cfgOk_of mixed tys_ok (show FnsOk Tryz.prog C_l_heldNoteS from ⟨fn_l_heldByteS, trivial⟩)) hp (all_of (by kernel_rfl : loopsOf (nthLoop Tryz.f44 0) = []) trivial) (by kernel_rfl) lp_l_heldNoteS_2
theorem e_l_heldNoteS : ∀ d, pcall ⟨lookT tys, ctrOf C_l_heldNoteS, kindOf C_l_heldNoteS, 3, 4⟩ 0 Q_l_heldNoteS Tryz.f44 .plain (mkA P_l_heldNoteS d) = (T_l_heldNoteS d.1 d.2.1).run fun r => some (O_l_heldNoteS r) := fun d => by kernel_rfl
theorem fn_l_heldNoteS : Fn Tryz.prog 44 .plain F_l_heldNoteS := fn_of (cfgOk_of mixed tys_ok (show FnsOk Tryz.prog C_l_heldNoteS from ⟨fn_l_heldByteS, trivial⟩)) Tryz.func44 (by kernel_rfl) (by kernel_rfl) (fun cx b hp hb => all_of (by kernel_rfl : loopsOf (Tryz.f44.body.getD .skip) = [nthLoop Tryz.f44 0]) ⟨lo_l_heldNoteS_2 cx hp, trivial⟩ b hb) (R := (YI)) (T := fun (d : aden P_l_heldNoteS) => T_l_heldNoteS d.1 d.2.1) e_l_heldNoteS
def P_l_FnExactDial : List (Bool × List Sh) := [(true, h_14), (false, [.int .i64]), (false, [.sl 5 [.int .u8]])]
def O_l_FnExactDial (r : (Bool × Unit)) : List RV × List RV := ([rv (false, [.bool]) r], [])
def C_l_FnExactDial : Fns := [(32, .plain, F_l_szClient), (34, .plain, F_l_toClient), (23, .plain, F_l_toByteS), (33, .plain, F_s_Dial), (35, .plain, F_i_Dial), (36, .plain, F_l_eqClient), (37, .plain, F_l_eqFrameS), (38, .plain, F_l_eqNoteS), (27, .plain, F_l_eqByteS), (39, (.lend [1]), F_l_markClient), (29, (.lend [1]), F_l_markByteS), (40, (.lend [1]), F_l_markFrameS), (41, (.lend [1]), F_l_markNoteS), (42, .plain, F_l_heldClient), (43, .plain, F_l_heldFrameS), (44, .plain, F_l_heldNoteS)]
def F_l_FnExactDial : Fun1 := funV P_l_FnExactDial (fun d => (T_l_FnExactDial d.1 d.2.1 d.2.2.1).val) O_l_FnExactDial
def Q_l_FnExactDial : Loops := fun _ _ => .fail
theorem e_l_FnExactDial : ∀ d, pcall ⟨lookT tys, ctrOf C_l_FnExactDial, kindOf C_l_FnExactDial, 3, 4⟩ 0 Q_l_FnExactDial Tryz.f6 .plain (mkA P_l_FnExactDial d) = (T_l_FnExactDial d.1 d.2.1 d.2.2.1).run fun r => some (O_l_FnExactDial r) := fun d => by kernel_rfl
theorem fn_l_FnExactDial : Fn Tryz.prog 6 .plain F_l_FnExactDial := fn_of (cfgOk_of mixed tys_ok (show FnsOk Tryz.prog C_l_FnExactDial from ⟨fn_l_szClient, fn_l_toClient, fn_l_toByteS, fn_s_Dial, fn_i_Dial, fn_l_eqClient, fn_l_eqFrameS, fn_l_eqNoteS, fn_l_eqByteS, fn_l_markClient, fn_l_markByteS, fn_l_markFrameS, fn_l_markNoteS, fn_l_heldClient, fn_l_heldFrameS, fn_l_heldNoteS, trivial⟩)) Tryz.func6 (by kernel_rfl) (by kernel_rfl) (fun cx b hp hb => all_of (by kernel_rfl : loopsOf (Tryz.f6.body.getD .skip) = []) trivial b hb) (R := (Bool × Unit)) (T := fun (d : aden P_l_FnExactDial) => T_l_FnExactDial d.1 d.2.1 d.2.2.1) e_l_FnExactDial
end
end Go.Proofs.YtfdfaefafbnceaaGreat

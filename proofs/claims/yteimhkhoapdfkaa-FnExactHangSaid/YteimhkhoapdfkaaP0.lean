/-
  That the functions of the seat answer what the terms of text W say; nothing is assumed.
-/
import Derived.Test.YteimhkhoapdfkaaW
import Derived.Test.YteimhkhoapdfkaaProg
import Derived.KernelRfl
namespace Go.Proofs.Yteimhkhoapdfkaa
open Go.RowKit
set_option linter.unusedVariables false
set_option maxRecDepth 100000
set_option maxHeartbeats 4000000
noncomputable section
abbrev h_0 : List Sh := [.int .i64, .int .i64, .bool, .int .u8]
abbrev h_1 : List Sh := [.bool, .int .i64, .int .i64, .int .i64]
abbrev h_2 : List Sh := [.int .i64, .int .i64, .int .i64, .int .i64]
abbrev h_3 : List Sh := [.sl 3 [.int .i64], .sl 5 [.int .u8], .int .i64]
abbrev h_4 : List Sh := [.int .i64, .int .i64, .int .i64, .sl 5 [.int .u8]]
abbrev h_5 : List Sh := [.int .i64, .int .i64, .sl 5 [.int .u8], .int .i64]
abbrev h_6 : List Sh := [.int .i64, .int .i64, .int .i64, .int .i64, .sl 5 [.int .u8]]
abbrev h_7 : List Sh := [.int .i64, .sl 5 [.int .u8], .int .i64, .int .i64, .sl 3 [.int .i64]]
abbrev h_8 : List Sh := [.int .i64, .int .i64, .sl 225 h_5]
abbrev h_9 : List Sh := [.int .i64, .int .i64, .sl 201 h_5]
abbrev h_10 : List Sh := [.int .i64, .int .i64, .int .i64, .sl 5 [.int .u8], .sl 5 [.int .u8], .int .i64, .int .i64, .sl 5 [.int .u8], .sl 5 [.int .u8], .int .i64, .int .i64, .int .i64]
abbrev h_11 : List Sh := [.int .i64, .int .i64, .sl 5 [.int .u8], .sl 5 [.int .u8], .int .i64, .sl 5 [.int .u8], .sl 5 [.int .u8], .int .i64, .int .i64, .sl 5 [.int .u8], .sl 5 [.int .u8]]
abbrev h_12 : List Sh := [.int .i64, .sl 5 [.int .u8], .int .i64, .sl 5 [.int .u8], .int .i64, .int .i64, .sl 3 [.int .i64], .int .i64, .sl 5 [.int .u8], .int .i64, .int .i64, .sl 3 [.int .i64], .bool, .int .i64, .sl 5 [.int .u8]]
abbrev h_13 : List Sh := [.int .i64, .sl 5 [.int .u8], .sl 5 [.int .u8], .int .i64, .sl 5 [.int .u8], .int .i64, .sl 5 [.int .u8], .int .i64, .int .i64, .sl 3 [.int .i64], .int .i64, .sl 5 [.int .u8], .int .i64, .int .i64, .sl 3 [.int .i64], .bool, .int .i64, .sl 5 [.int .u8], .int .i64, .int .i64, .sl 225 h_5, .int .i64, .int .i64, .bool]
abbrev h_14 : List Sh := [.int .i64, .sl 5 [.int .u8], .sl 5 [.int .u8], .int .i64, .sl 5 [.int .u8], .int .i64, .sl 5 [.int .u8], .int .i64, .int .i64, .sl 3 [.int .i64], .int .i64, .sl 5 [.int .u8], .int .i64, .int .i64, .sl 3 [.int .i64], .bool, .int .i64, .sl 5 [.int .u8], .int .i64, .int .i64, .sl 201 h_5, .int .i64, .int .i64, .bool]
abbrev h_15 : List Sh := [.sl 22 [.sl 5 [.int .u8]], .sl 5 [.int .u8], .sl 5 [.int .u8], .int .i64, .int .i64, .sl 36 h_13, .sl 211 h_2]
abbrev h_16 : List Sh := [.sl 22 [.sl 5 [.int .u8]], .sl 5 [.int .u8], .sl 5 [.int .u8], .int .i64, .int .i64, .sl 48 h_14, .sl 207 h_2]
abbrev h_17 : List Sh := [.int .i64, .sl 5 [.int .u8], .int .i64, .int .i64, .int .i64, .sl 5 [.int .u8], .int .i64, .int .i64, .sl 5 [.int .u8], .sl 5 [.int .u8], .int .i64, .sl 5 [.int .u8], .sl 5 [.int .u8], .int .i64, .int .i64, .sl 5 [.int .u8], .sl 5 [.int .u8], .int .i64, .sl 5 [.int .u8], .int .i64, .sl 5 [.int .u8], .int .i64, .int .i64, .sl 3 [.int .i64], .int .i64, .sl 5 [.int .u8], .int .i64, .int .i64, .sl 3 [.int .i64], .bool, .int .i64, .sl 5 [.int .u8], .bool, .int .i64, .int .i64, .int .i64, .bool, .int .i64, .int .i64, .int .i64, .int .i64]
def tys : List (Nat × Ty) := [(3, ⟨false, [.int .i64], [], false⟩),
  (4, ⟨false, [.bool], [], false⟩),
  (5, ⟨false, [.int .u8], [], false⟩),
  (9, ⟨false, [.str], [], false⟩),
  (22, ⟨false, [.sl 5 [.int .u8]], [], false⟩),
  (23, ⟨false, [.sl 3 [.int .i64]], [], false⟩),
  (25, ⟨true, [.int .i64, .sl 3 [.int .i64]], [(0, 1), (1, 1)], false⟩),
  (27, ⟨true, [.int .i64, .sl 5 [.int .u8], .int .i64, .int .i64, .sl 3 [.int .i64]], [(0, 1), (1, 1), (2, 1), (3, 2)], false⟩),
  (29, ⟨true, [.int .i64, .sl 5 [.int .u8], .int .i64, .sl 5 [.int .u8], .int .i64, .int .i64, .sl 3 [.int .i64], .int .i64, .sl 5 [.int .u8], .int .i64, .int .i64, .sl 3 [.int .i64], .bool, .int .i64, .sl 5 [.int .u8]], [(0, 1), (1, 1), (2, 5), (7, 5), (12, 1), (13, 1), (14, 1)], false⟩),
  (31, ⟨true, [.int .i64, .int .i64], [(0, 1), (1, 1)], true⟩),
  (32, ⟨false, [.sl 225 [.int .i64, .int .i64, .sl 5 [.int .u8], .int .i64]], [], false⟩),
  (34, ⟨true, [.int .i64, .int .i64, .sl 225 [.int .i64, .int .i64, .sl 5 [.int .u8], .int .i64]], [(0, 2), (2, 1)], false⟩),
  (36, ⟨true, [.int .i64, .sl 5 [.int .u8], .sl 5 [.int .u8], .int .i64, .sl 5 [.int .u8], .int .i64, .sl 5 [.int .u8], .int .i64, .int .i64, .sl 3 [.int .i64], .int .i64, .sl 5 [.int .u8], .int .i64, .int .i64, .sl 3 [.int .i64], .bool, .int .i64, .sl 5 [.int .u8], .int .i64, .int .i64, .sl 225 [.int .i64, .int .i64, .sl 5 [.int .u8], .int .i64], .int .i64, .int .i64, .bool], [(0, 1), (1, 1), (2, 1), (3, 15), (18, 3), (21, 1), (22, 1), (23, 1)], false⟩),
  (38, ⟨true, [.int .i64, .sl 3 [.int .i64]], [(0, 1), (1, 1)], false⟩),
  (40, ⟨true, [.int .i64, .sl 5 [.int .u8], .int .i64, .int .i64, .sl 3 [.int .i64]], [(0, 1), (1, 1), (2, 1), (3, 2)], false⟩),
  (42, ⟨true, [.int .i64, .sl 5 [.int .u8], .int .i64, .sl 5 [.int .u8], .int .i64, .int .i64, .sl 3 [.int .i64], .int .i64, .sl 5 [.int .u8], .int .i64, .int .i64, .sl 3 [.int .i64], .bool, .int .i64, .sl 5 [.int .u8]], [(0, 1), (1, 1), (2, 5), (7, 5), (12, 1), (13, 1), (14, 1)], false⟩),
  (43, ⟨true, [.int .i64, .int .i64], [(0, 1), (1, 1)], true⟩),
  (44, ⟨false, [.sl 201 [.int .i64, .int .i64, .sl 5 [.int .u8], .int .i64]], [], false⟩),
  (46, ⟨true, [.int .i64, .int .i64, .sl 201 [.int .i64, .int .i64, .sl 5 [.int .u8], .int .i64]], [(0, 2), (2, 1)], false⟩),
  (48, ⟨true, [.int .i64, .sl 5 [.int .u8], .sl 5 [.int .u8], .int .i64, .sl 5 [.int .u8], .int .i64, .sl 5 [.int .u8], .int .i64, .int .i64, .sl 3 [.int .i64], .int .i64, .sl 5 [.int .u8], .int .i64, .int .i64, .sl 3 [.int .i64], .bool, .int .i64, .sl 5 [.int .u8], .int .i64, .int .i64, .sl 201 [.int .i64, .int .i64, .sl 5 [.int .u8], .int .i64], .int .i64, .int .i64, .bool], [(0, 1), (1, 1), (2, 1), (3, 15), (18, 3), (21, 1), (22, 1), (23, 1)], false⟩),
  (56, ⟨false, [.sl 22 [.sl 5 [.int .u8]]], [], false⟩),
  (58, ⟨true, [.sl 5 [.int .u8]], [(0, 1)], false⟩),
  (60, ⟨true, [.sl 5 [.int .u8], .int .i64], [(0, 1), (1, 1)], false⟩),
  (61, ⟨false, [.sl 36 [.int .i64, .sl 5 [.int .u8], .sl 5 [.int .u8], .int .i64, .sl 5 [.int .u8], .int .i64, .sl 5 [.int .u8], .int .i64, .int .i64, .sl 3 [.int .i64], .int .i64, .sl 5 [.int .u8], .int .i64, .int .i64, .sl 3 [.int .i64], .bool, .int .i64, .sl 5 [.int .u8], .int .i64, .int .i64, .sl 225 [.int .i64, .int .i64, .sl 5 [.int .u8], .int .i64], .int .i64, .int .i64, .bool]], [], false⟩),
  (63, ⟨true, [.int .i64, .sl 36 [.int .i64, .sl 5 [.int .u8], .sl 5 [.int .u8], .int .i64, .sl 5 [.int .u8], .int .i64, .sl 5 [.int .u8], .int .i64, .int .i64, .sl 3 [.int .i64], .int .i64, .sl 5 [.int .u8], .int .i64, .int .i64, .sl 3 [.int .i64], .bool, .int .i64, .sl 5 [.int .u8], .int .i64, .int .i64, .sl 225 [.int .i64, .int .i64, .sl 5 [.int .u8], .int .i64], .int .i64, .int .i64, .bool]], [(0, 1), (1, 1)], false⟩),
  (64, ⟨false, [.sl 211 [.int .i64, .int .i64, .int .i64, .int .i64]], [], false⟩),
  (66, ⟨true, [.sl 22 [.sl 5 [.int .u8]], .sl 5 [.int .u8], .sl 5 [.int .u8], .int .i64, .int .i64, .sl 36 [.int .i64, .sl 5 [.int .u8], .sl 5 [.int .u8], .int .i64, .sl 5 [.int .u8], .int .i64, .sl 5 [.int .u8], .int .i64, .int .i64, .sl 3 [.int .i64], .int .i64, .sl 5 [.int .u8], .int .i64, .int .i64, .sl 3 [.int .i64], .bool, .int .i64, .sl 5 [.int .u8], .int .i64, .int .i64, .sl 225 [.int .i64, .int .i64, .sl 5 [.int .u8], .int .i64], .int .i64, .int .i64, .bool], .sl 211 [.int .i64, .int .i64, .int .i64, .int .i64]], [(0, 1), (1, 1), (2, 2), (4, 2), (6, 1)], false⟩),
  (69, ⟨true, [.sl 5 [.int .u8]], [(0, 1)], false⟩),
  (70, ⟨true, [.sl 5 [.int .u8], .int .i64], [(0, 1), (1, 1)], false⟩),
  (71, ⟨false, [.sl 48 [.int .i64, .sl 5 [.int .u8], .sl 5 [.int .u8], .int .i64, .sl 5 [.int .u8], .int .i64, .sl 5 [.int .u8], .int .i64, .int .i64, .sl 3 [.int .i64], .int .i64, .sl 5 [.int .u8], .int .i64, .int .i64, .sl 3 [.int .i64], .bool, .int .i64, .sl 5 [.int .u8], .int .i64, .int .i64, .sl 201 [.int .i64, .int .i64, .sl 5 [.int .u8], .int .i64], .int .i64, .int .i64, .bool]], [], false⟩),
  (73, ⟨true, [.int .i64, .sl 48 [.int .i64, .sl 5 [.int .u8], .sl 5 [.int .u8], .int .i64, .sl 5 [.int .u8], .int .i64, .sl 5 [.int .u8], .int .i64, .int .i64, .sl 3 [.int .i64], .int .i64, .sl 5 [.int .u8], .int .i64, .int .i64, .sl 3 [.int .i64], .bool, .int .i64, .sl 5 [.int .u8], .int .i64, .int .i64, .sl 201 [.int .i64, .int .i64, .sl 5 [.int .u8], .int .i64], .int .i64, .int .i64, .bool]], [(0, 1), (1, 1)], false⟩),
  (74, ⟨false, [.sl 207 [.int .i64, .int .i64, .int .i64, .int .i64]], [], false⟩),
  (76, ⟨true, [.sl 22 [.sl 5 [.int .u8]], .sl 5 [.int .u8], .sl 5 [.int .u8], .int .i64, .int .i64, .sl 48 [.int .i64, .sl 5 [.int .u8], .sl 5 [.int .u8], .int .i64, .sl 5 [.int .u8], .int .i64, .sl 5 [.int .u8], .int .i64, .int .i64, .sl 3 [.int .i64], .int .i64, .sl 5 [.int .u8], .int .i64, .int .i64, .sl 3 [.int .i64], .bool, .int .i64, .sl 5 [.int .u8], .int .i64, .int .i64, .sl 201 [.int .i64, .int .i64, .sl 5 [.int .u8], .int .i64], .int .i64, .int .i64, .bool], .sl 207 [.int .i64, .int .i64, .int .i64, .int .i64]], [(0, 1), (1, 1), (2, 2), (4, 2), (6, 1)], false⟩),
  (81, ⟨true, [.int .i64, .int .i64, .sl 5 [.int .u8], .sl 5 [.int .u8], .int .i64, .sl 5 [.int .u8], .sl 5 [.int .u8], .int .i64, .int .i64, .sl 5 [.int .u8], .sl 5 [.int .u8]], [(0, 1), (1, 1), (2, 1), (3, 1), (4, 1), (5, 1), (6, 1), (7, 1), (8, 1), (9, 1), (10, 1)], false⟩),
  (83, ⟨true, [.bool, .int .i64, .int .i64, .int .i64], [(0, 1), (1, 1), (2, 1), (3, 1)], true⟩),
  (85, ⟨true, (.int .i64 :: .sl 5 [.int .u8] :: .int .i64 :: .int .i64 :: .int .i64 :: .sl 5 [.int .u8] :: .int .i64 :: .int .i64 :: .sl 5 [.int .u8] :: .sl 5 [.int .u8] :: .int .i64 :: .sl 5 [.int .u8] :: .sl 5 [.int .u8] :: .int .i64 :: .int .i64 :: .sl 5 [.int .u8] :: .sl 5 [.int .u8] :: .int .i64 :: .sl 5 [.int .u8] :: .int .i64 :: .sl 5 [.int .u8] :: .int .i64 :: .int .i64 :: .sl 3 [.int .i64] :: .int .i64 :: .sl 5 [.int .u8] :: .int .i64 :: .int .i64 :: .sl 3 [.int .i64] :: .bool :: .int .i64 :: .sl 5 [.int .u8] :: .bool :: .int .i64 :: .int .i64 :: .int .i64 :: .bool :: .int .i64 :: .int .i64 :: .int .i64 :: .int .i64 :: []), [(0, 1), (1, 1), (2, 2), (4, 1), (5, 1), (6, 11), (17, 15), (32, 4), (36, 4), (40, 1)], false⟩),
  (87, ⟨true, [.int .i64, .int .i64, .sl 5 [.int .u8], .sl 5 [.int .u8], .int .i64, .sl 5 [.int .u8], .sl 5 [.int .u8], .int .i64, .int .i64, .sl 5 [.int .u8], .sl 5 [.int .u8]], [(0, 1), (1, 1), (2, 1), (3, 1), (4, 1), (5, 1), (6, 1), (7, 1), (8, 1), (9, 1), (10, 1)], false⟩),
  (88, ⟨true, [.bool, .int .i64, .int .i64, .int .i64], [(0, 1), (1, 1), (2, 1), (3, 1)], true⟩),
  (90, ⟨true, (.int .i64 :: .sl 5 [.int .u8] :: .int .i64 :: .int .i64 :: .int .i64 :: .sl 5 [.int .u8] :: .int .i64 :: .int .i64 :: .sl 5 [.int .u8] :: .sl 5 [.int .u8] :: .int .i64 :: .sl 5 [.int .u8] :: .sl 5 [.int .u8] :: .int .i64 :: .int .i64 :: .sl 5 [.int .u8] :: .sl 5 [.int .u8] :: .int .i64 :: .sl 5 [.int .u8] :: .int .i64 :: .sl 5 [.int .u8] :: .int .i64 :: .int .i64 :: .sl 3 [.int .i64] :: .int .i64 :: .sl 5 [.int .u8] :: .int .i64 :: .int .i64 :: .sl 3 [.int .i64] :: .bool :: .int .i64 :: .sl 5 [.int .u8] :: .bool :: .int .i64 :: .int .i64 :: .int .i64 :: .bool :: .int .i64 :: .int .i64 :: .int .i64 :: .int .i64 :: []), [(0, 1), (1, 1), (2, 2), (4, 1), (5, 1), (6, 11), (17, 15), (32, 4), (36, 4), (40, 1)], false⟩),
  (91, ⟨false, [.sl 157 [.int .i64, .int .i64, .int .i64, .sl 5 [.int .u8], .sl 5 [.int .u8], .int .i64, .int .i64, .sl 5 [.int .u8], .sl 5 [.int .u8], .int .i64, .int .i64, .int .i64]], [], false⟩),
  (157, ⟨true, [.int .i64, .int .i64, .int .i64, .sl 5 [.int .u8], .sl 5 [.int .u8], .int .i64, .int .i64, .sl 5 [.int .u8], .sl 5 [.int .u8], .int .i64, .int .i64, .int .i64], [(0, 1), (1, 1), (2, 1), (3, 1), (4, 1), (5, 1), (6, 1), (7, 1), (8, 1), (9, 2), (11, 1)], false⟩),
  (201, ⟨true, [.int .i64, .int .i64, .sl 5 [.int .u8], .int .i64], [(0, 2), (2, 1), (3, 1)], false⟩),
  (207, ⟨true, [.int .i64, .int .i64, .int .i64, .int .i64], [(0, 2), (2, 1), (3, 1)], false⟩),
  (211, ⟨true, [.int .i64, .int .i64, .int .i64, .int .i64], [(0, 2), (2, 1), (3, 1)], false⟩),
  (225, ⟨true, [.int .i64, .int .i64, .sl 5 [.int .u8], .int .i64], [(0, 2), (2, 1), (3, 1)], false⟩)]
theorem tys_ok : tysB Try.prog tys = true := by kernel_rfl
theorem mixed : Try.prog.follows .mixedOrders = true := by kernel_rfl
def P_l_szByteS : List (Bool × List Sh) := [(false, [.sl 5 [.int .u8]]), (false, [.int .i64])]
def O_l_szByteS (r : (YI)) : List RV × List RV := ([rv (false, [.int .i64]) r], [])
def C_l_szByteS : Fns := []
def F_l_szByteS : Fun1 := funV P_l_szByteS (fun d => (T_l_szByteS d.1 d.2.1).val) O_l_szByteS
def Q_l_szByteS : Loops := fun _ _ => .fail
theorem e_l_szByteS : ∀ d, pcall ⟨lookT tys, ctrOf C_l_szByteS, kindOf C_l_szByteS, 3, 4⟩ 0 Q_l_szByteS Try.f53 .plain (mkA P_l_szByteS d) = (T_l_szByteS d.1 d.2.1).run fun r => some (O_l_szByteS r) := fun d => by kernel_rfl
theorem fn_l_szByteS : Fn Try.prog 53 .plain F_l_szByteS := fn_of (cfgOk_of mixed tys_ok (show FnsOk Try.prog C_l_szByteS from trivial)) Try.func53 (by kernel_rfl) (by kernel_rfl) (fun cx b hp hb => all_of (by kernel_rfl : loopsOf (Try.f53.body.getD .skip) = []) trivial b hb) (R := (YI)) (T := fun (d : aden P_l_szByteS) => T_l_szByteS d.1 d.2.1) e_l_szByteS
def P_l_szIntS : List (Bool × List Sh) := [(false, [.sl 3 [.int .i64]]), (false, [.int .i64])]
def O_l_szIntS (r : (YI)) : List RV × List RV := ([rv (false, [.int .i64]) r], [])
def C_l_szIntS : Fns := []
def F_l_szIntS : Fun1 := funV P_l_szIntS (fun d => (T_l_szIntS d.1 d.2.1).val) O_l_szIntS
def Q_l_szIntS : Loops := fun _ _ => .fail
theorem e_l_szIntS : ∀ d, pcall ⟨lookT tys, ctrOf C_l_szIntS, kindOf C_l_szIntS, 3, 4⟩ 0 Q_l_szIntS Try.f218 .plain (mkA P_l_szIntS d) = (T_l_szIntS d.1 d.2.1).run fun r => some (O_l_szIntS r) := fun d => by kernel_rfl
theorem fn_l_szIntS : Fn Try.prog 218 .plain F_l_szIntS := fn_of (cfgOk_of mixed tys_ok (show FnsOk Try.prog C_l_szIntS from trivial)) Try.func218 (by kernel_rfl) (by kernel_rfl) (fun cx b hp hb => all_of (by kernel_rfl : loopsOf (Try.f218.body.getD .skip) = []) trivial b hb) (R := (YI)) (T := fun (d : aden P_l_szIntS) => T_l_szIntS d.1 d.2.1) e_l_szIntS
def P_l_szWin : List (Bool × List Sh) := [(true, [.int .i64, .sl 3 [.int .i64]]), (false, [.int .i64])]
def O_l_szWin (r : (YI)) : List RV × List RV := ([rv (false, [.int .i64]) r], [])
def C_l_szWin : Fns := [(218, .plain, F_l_szIntS)]
def F_l_szWin : Fun1 := funV P_l_szWin (fun d => (T_l_szWin d.1 d.2.1).val) O_l_szWin
def Q_l_szWin : Loops := fun _ _ => .fail
theorem e_l_szWin : ∀ d, pcall ⟨lookT tys, ctrOf C_l_szWin, kindOf C_l_szWin, 3, 4⟩ 0 Q_l_szWin Try.f188 .plain (mkA P_l_szWin d) = (T_l_szWin d.1 d.2.1).run fun r => some (O_l_szWin r) := fun d => by kernel_rfl
theorem fn_l_szWin : Fn Try.prog 188 .plain F_l_szWin := fn_of (cfgOk_of mixed tys_ok (show FnsOk Try.prog C_l_szWin from ⟨fn_l_szIntS, trivial⟩)) Try.func188 (by kernel_rfl) (by kernel_rfl) (fun cx b hp hb => all_of (by kernel_rfl : loopsOf (Try.f188.body.getD .skip) = []) trivial b hb) (R := (YI)) (T := fun (d : aden P_l_szWin) => T_l_szWin d.1 d.2.1) e_l_szWin
def P_l_szEp : List (Bool × List Sh) := [(true, h_7), (false, [.int .i64])]
def O_l_szEp (r : (YI)) : List RV × List RV := ([rv (false, [.int .i64]) r], [])
def C_l_szEp : Fns := [(53, .plain, F_l_szByteS), (188, .plain, F_l_szWin)]
def F_l_szEp : Fun1 := funV P_l_szEp (fun d => (T_l_szEp d.1 d.2.1).val) O_l_szEp
def Q_l_szEp : Loops := fun _ _ => .fail
theorem e_l_szEp : ∀ d, pcall ⟨lookT tys, ctrOf C_l_szEp, kindOf C_l_szEp, 3, 4⟩ 0 Q_l_szEp Try.f132 .plain (mkA P_l_szEp d) = (T_l_szEp d.1 d.2.1).run fun r => some (O_l_szEp r) := fun d => by kernel_rfl
theorem fn_l_szEp : Fn Try.prog 132 .plain F_l_szEp := fn_of (cfgOk_of mixed tys_ok (show FnsOk Try.prog C_l_szEp from ⟨fn_l_szByteS, fn_l_szWin, trivial⟩)) Try.func132 (by kernel_rfl) (by kernel_rfl) (fun cx b hp hb => all_of (by kernel_rfl : loopsOf (Try.f132.body.getD .skip) = []) trivial b hb) (R := (YI)) (T := fun (d : aden P_l_szEp) => T_l_szEp d.1 d.2.1) e_l_szEp
def P_l_szChan : List (Bool × List Sh) := [(true, h_12), (false, [.int .i64])]
def O_l_szChan (r : (YI)) : List RV × List RV := ([rv (false, [.int .i64]) r], [])
def C_l_szChan : Fns := [(53, .plain, F_l_szByteS), (132, .plain, F_l_szEp)]
def F_l_szChan : Fun1 := funV P_l_szChan (fun d => (T_l_szChan d.1 d.2.1).val) O_l_szChan
def Q_l_szChan : Loops := fun _ _ => .fail
theorem e_l_szChan : ∀ d, pcall ⟨lookT tys, ctrOf C_l_szChan, kindOf C_l_szChan, 3, 4⟩ 0 Q_l_szChan Try.f54 .plain (mkA P_l_szChan d) = (T_l_szChan d.1 d.2.1).run fun r => some (O_l_szChan r) := fun d => by kernel_rfl
theorem fn_l_szChan : Fn Try.prog 54 .plain F_l_szChan := fn_of (cfgOk_of mixed tys_ok (show FnsOk Try.prog C_l_szChan from ⟨fn_l_szByteS, fn_l_szEp, trivial⟩)) Try.func54 (by kernel_rfl) (by kernel_rfl) (fun cx b hp hb => all_of (by kernel_rfl : loopsOf (Try.f54.body.getD .skip) = []) trivial b hb) (R := (YI)) (T := fun (d : aden P_l_szChan) => T_l_szChan d.1 d.2.1) e_l_szChan
def P_l_szCand : List (Bool × List Sh) := [(true, h_5), (false, [.int .i64])]
def O_l_szCand (r : (YI)) : List RV × List RV := ([rv (false, [.int .i64]) r], [])
def C_l_szCand : Fns := [(53, .plain, F_l_szByteS)]
def F_l_szCand : Fun1 := funV P_l_szCand (fun d => (T_l_szCand d.1 d.2.1).val) O_l_szCand
def Q_l_szCand : Loops := fun _ _ => .fail
theorem e_l_szCand : ∀ d, pcall ⟨lookT tys, ctrOf C_l_szCand, kindOf C_l_szCand, 3, 4⟩ 0 Q_l_szCand Try.f189 .plain (mkA P_l_szCand d) = (T_l_szCand d.1 d.2.1).run fun r => some (O_l_szCand r) := fun d => by kernel_rfl
theorem fn_l_szCand : Fn Try.prog 189 .plain F_l_szCand := fn_of (cfgOk_of mixed tys_ok (show FnsOk Try.prog C_l_szCand from ⟨fn_l_szByteS, trivial⟩)) Try.func189 (by kernel_rfl) (by kernel_rfl) (fun cx b hp hb => all_of (by kernel_rfl : loopsOf (Try.f189.body.getD .skip) = []) trivial b hb) (R := (YI)) (T := fun (d : aden P_l_szCand) => T_l_szCand d.1 d.2.1) e_l_szCand
def P_l_szCandS : List (Bool × List Sh) := [(false, [.sl 225 h_5]), (false, [.int .i64])]
def O_l_szCandS (r : (YI)) : List RV × List RV := ([rv (false, [.int .i64]) r], [])
def C_l_szCandS : Fns := [(189, .plain, F_l_szCand)]
def F_l_szCandS : Fun1 := funV P_l_szCandS (fun d => (T_l_szCandS d.1 d.2.1).val) O_l_szCandS
def K_l_szCandS_5 : Sk := ⟨[(0, .v false [(.sl 225 h_5, .ro)]), (1, .v false [(.int .i64, .nil)]), (5, .v false [(.int .i64, .nil)])], [], []⟩
def X_l_szCandS_5 : List (Ex × Sk) := [(.ret, ⟨[(4, .v false [(.int .i64, .nil)])], [], []⟩), ((.exit 0), ⟨[(1, .v false [(.int .i64, .nil)])], [], []⟩)]
def Q_l_szCandS : Loops := fun i st => cond (Nat.beq i 5) (lam K_l_szCandS_5 6000000 X_l_szCandS_5 B_l_szCandS_5 st) <| .fail
theorem lp_l_szCandS_5 : ∀ d, bod ⟨lookT tys, ctrOf C_l_szCandS, kindOf C_l_szCandS, 3, 4⟩ 0 Try.f133.ntmps Q_l_szCandS (nthLoop Try.f133 0) K_l_szCandS_5 6000000 X_l_szCandS_5 d = B_l_szCandS_5 d := fun d => by kernel_rfl
theorem lo_l_szCandS_5 (cx : Cx) (hp : cx.pin.length ≤ 0) : LoopOk Try.prog cx Try.f133.ntmps Q_l_szCandS (nthLoop Try.f133 0) := loop_of (cfgOk_of mixed tys_ok (show FnsOk Try.prog C_l_szCandS from ⟨fn_l_szCand, trivial⟩)) hp (all_of (by kernel_rfl : loopsOf (nthLoop Try.f133 0) = []) trivial) (by kernel_rfl) lp_l_szCandS_5
theorem e_l_szCandS : ∀ d, pcall ⟨lookT tys, ctrOf C_l_szCandS, kindOf C_l_szCandS, 3, 4⟩ 0 Q_l_szCandS Try.f133 .plain (mkA P_l_szCandS d) = (T_l_szCandS d.1 d.2.1).run fun r => some (O_l_szCandS r) := fun d => by kernel_rfl
theorem fn_l_szCandS : Fn Try.prog 133 .plain F_l_szCandS := fn_of (cfgOk_of mixed tys_ok (show FnsOk Try.prog C_l_szCandS from ⟨fn_l_szCand, trivial⟩)) Try.func133 (by kernel_rfl) (by kernel_rfl) (fun cx b hp hb => all_of (by kernel_rfl : loopsOf (Try.f133.body.getD .skip) = [nthLoop Try.f133 0]) ⟨lo_l_szCandS_5 cx hp, trivial⟩ b hb) (R := (YI)) (T := fun (d : aden P_l_szCandS) => T_l_szCandS d.1 d.2.1) e_l_szCandS
def P_l_szPaths : List (Bool × List Sh) := [(true, h_8), (false, [.int .i64])]
def O_l_szPaths (r : (YI)) : List RV × List RV := ([rv (false, [.int .i64]) r], [])
def C_l_szPaths : Fns := [(133, .plain, F_l_szCandS)]
def F_l_szPaths : Fun1 := funV P_l_szPaths (fun d => (T_l_szPaths d.1 d.2.1).val) O_l_szPaths
def Q_l_szPaths : Loops := fun _ _ => .fail
theorem e_l_szPaths : ∀ d, pcall ⟨lookT tys, ctrOf C_l_szPaths, kindOf C_l_szPaths, 3, 4⟩ 0 Q_l_szPaths Try.f55 .plain (mkA P_l_szPaths d) = (T_l_szPaths d.1 d.2.1).run fun r => some (O_l_szPaths r) := fun d => by kernel_rfl
theorem fn_l_szPaths : Fn Try.prog 55 .plain F_l_szPaths := fn_of (cfgOk_of mixed tys_ok (show FnsOk Try.prog C_l_szPaths from ⟨fn_l_szCandS, trivial⟩)) Try.func55 (by kernel_rfl) (by kernel_rfl) (fun cx b hp hb => all_of (by kernel_rfl : loopsOf (Try.f55.body.getD .skip) = []) trivial b hb) (R := (YI)) (T := fun (d : aden P_l_szPaths) => T_l_szPaths d.1 d.2.1) e_l_szPaths
def P_l_szSess : List (Bool × List Sh) := [(true, h_13), (false, [.int .i64])]
def O_l_szSess (r : (YI)) : List RV × List RV := ([rv (false, [.int .i64]) r], [])
def C_l_szSess : Fns := [(53, .plain, F_l_szByteS), (54, .plain, F_l_szChan), (55, .plain, F_l_szPaths)]
def F_l_szSess : Fun1 := funV P_l_szSess (fun d => (T_l_szSess d.1 d.2.1).val) O_l_szSess
def Q_l_szSess : Loops := fun _ _ => .fail
theorem e_l_szSess : ∀ d, pcall ⟨lookT tys, ctrOf C_l_szSess, kindOf C_l_szSess, 3, 4⟩ 0 Q_l_szSess Try.f9 .plain (mkA P_l_szSess d) = (T_l_szSess d.1 d.2.1).run fun r => some (O_l_szSess r) := fun d => by kernel_rfl
theorem fn_l_szSess : Fn Try.prog 9 .plain F_l_szSess := fn_of (cfgOk_of mixed tys_ok (show FnsOk Try.prog C_l_szSess from ⟨fn_l_szByteS, fn_l_szChan, fn_l_szPaths, trivial⟩)) Try.func9 (by kernel_rfl) (by kernel_rfl) (fun cx b hp hb => all_of (by kernel_rfl : loopsOf (Try.f9.body.getD .skip) = []) trivial b hb) (R := (YI)) (T := fun (d : aden P_l_szSess) => T_l_szSess d.1 d.2.1) e_l_szSess
def P_l_toByteS : List (Bool × List Sh) := [(false, [.sl 5 [.int .u8]])]
def O_l_toByteS (r : (YBs)) : List RV × List RV := ([rv (false, [.sl 5 [.int .u8]]) r], [])
def C_l_toByteS : Fns := []
def F_l_toByteS : Fun1 := funV P_l_toByteS (fun d => (T_l_toByteS d.1).val) O_l_toByteS
def K_l_toByteS_3 : Sk := ⟨[(0, .v false [(.sl 5 [.int .u8], .ro)]), (3, .v false [(.sl 5 [.int .u8], (.own 4000000))]), (4, .v false [(.int .i64, .nil)])], [], [4000000]⟩
def X_l_toByteS_3 : List (Ex × Sk) := [((.exit 0), ⟨[(3, .v false [(.sl 5 [.int .u8], (.own 4000000))])], [], [4000000]⟩)]
def Q_l_toByteS : Loops := fun i st => cond (Nat.beq i 3) (lam K_l_toByteS_3 4000000 X_l_toByteS_3 B_l_toByteS_3 st) <| .fail
theorem lp_l_toByteS_3 : ∀ d, bod ⟨lookT tys, ctrOf C_l_toByteS, kindOf C_l_toByteS, 3, 4⟩ 0 Try.f58.ntmps Q_l_toByteS (nthLoop Try.f58 0) K_l_toByteS_3 4000000 X_l_toByteS_3 d = B_l_toByteS_3 d := fun d => by kernel_rfl
theorem lo_l_toByteS_3 (cx : Cx) (hp : cx.pin.length ≤ 0) : LoopOk Try.prog cx Try.f58.ntmps Q_l_toByteS (nthLoop Try.f58 0) := loop_of (cfgOk_of mixed tys_ok (show FnsOk Try.prog C_l_toByteS from trivial)) hp (all_of (by kernel_rfl : loopsOf (nthLoop Try.f58 0) = []) trivial) (by kernel_rfl) lp_l_toByteS_3
theorem e_l_toByteS : ∀ d, pcall ⟨lookT tys, ctrOf C_l_toByteS, kindOf C_l_toByteS, 3, 4⟩ 0 Q_l_toByteS Try.f58 .plain (mkA P_l_toByteS d) = (T_l_toByteS d.1).run fun r => some (O_l_toByteS r) := fun d => by kernel_rfl
theorem fn_l_toByteS : Fn Try.prog 58 .plain F_l_toByteS := fn_of (cfgOk_of mixed tys_ok (show FnsOk Try.prog C_l_toByteS from trivial)) Try.func58 (by kernel_rfl) (by kernel_rfl) (fun cx b hp hb => all_of (by kernel_rfl : loopsOf (Try.f58.body.getD .skip) = [nthLoop Try.f58 0]) ⟨lo_l_toByteS_3 cx hp, trivial⟩ b hb) (R := (YBs)) (T := fun (d : aden P_l_toByteS) => T_l_toByteS d.1) e_l_toByteS
def P_l_toIntS : List (Bool × List Sh) := [(false, [.sl 3 [.int .i64]])]
def O_l_toIntS (r : ((List YI) × Unit)) : List RV × List RV := ([rv (false, [.sl 3 [.int .i64]]) r], [])
def C_l_toIntS : Fns := []
def F_l_toIntS : Fun1 := funV P_l_toIntS (fun d => (T_l_toIntS d.1).val) O_l_toIntS
def K_l_toIntS_3 : Sk := ⟨[(0, .v false [(.sl 3 [.int .i64], .ro)]), (3, .v false [(.sl 3 [.int .i64], (.own 4000000))]), (4, .v false [(.int .i64, .nil)])], [], [4000000]⟩
def X_l_toIntS_3 : List (Ex × Sk) := [((.exit 0), ⟨[(3, .v false [(.sl 3 [.int .i64], (.own 4000000))])], [], [4000000]⟩)]
def Q_l_toIntS : Loops := fun i st => cond (Nat.beq i 3) (lam K_l_toIntS_3 4000000 X_l_toIntS_3 B_l_toIntS_3 st) <| .fail
theorem lp_l_toIntS_3 : ∀ d, bod ⟨lookT tys, ctrOf C_l_toIntS, kindOf C_l_toIntS, 3, 4⟩ 0 Try.f221.ntmps Q_l_toIntS (nthLoop Try.f221 0) K_l_toIntS_3 4000000 X_l_toIntS_3 d = B_l_toIntS_3 d := fun d => by kernel_rfl
theorem lo_l_toIntS_3 (cx : Cx) (hp : cx.pin.length ≤ 0) : LoopOk Try.prog cx Try.f221.ntmps Q_l_toIntS (nthLoop Try.f221 0) := loop_of (cfgOk_of mixed tys_ok (show FnsOk Try.prog C_l_toIntS from trivial)) hp (all_of (by kernel_rfl : loopsOf (nthLoop Try.f221 0) = []) trivial) (by kernel_rfl) lp_l_toIntS_3
theorem e_l_toIntS : ∀ d, pcall ⟨lookT tys, ctrOf C_l_toIntS, kindOf C_l_toIntS, 3, 4⟩ 0 Q_l_toIntS Try.f221 .plain (mkA P_l_toIntS d) = (T_l_toIntS d.1).run fun r => some (O_l_toIntS r) := fun d => by kernel_rfl
theorem fn_l_toIntS : Fn Try.prog 221 .plain F_l_toIntS := fn_of (cfgOk_of mixed tys_ok (show FnsOk Try.prog C_l_toIntS from trivial)) Try.func221 (by kernel_rfl) (by kernel_rfl) (fun cx b hp hb => all_of (by kernel_rfl : loopsOf (Try.f221.body.getD .skip) = [nthLoop Try.f221 0]) ⟨lo_l_toIntS_3 cx hp, trivial⟩ b hb) (R := ((List YI) × Unit)) (T := fun (d : aden P_l_toIntS) => T_l_toIntS d.1) e_l_toIntS
def P_l_toWin : List (Bool × List Sh) := [(true, [.int .i64, .sl 3 [.int .i64]])]
def O_l_toWin (r : (YWin)) : List RV × List RV := ([rv (true, [.int .i64, .sl 3 [.int .i64]]) r], [])
def C_l_toWin : Fns := [(221, .plain, F_l_toIntS)]
def F_l_toWin : Fun1 := funV P_l_toWin (fun d => (T_l_toWin d.1).val) O_l_toWin
def Q_l_toWin : Loops := fun _ _ => .fail
theorem e_l_toWin : ∀ d, pcall ⟨lookT tys, ctrOf C_l_toWin, kindOf C_l_toWin, 3, 4⟩ 0 Q_l_toWin Try.f194 .plain (mkA P_l_toWin d) = (T_l_toWin d.1).run fun r => some (O_l_toWin r) := fun d => by kernel_rfl
theorem fn_l_toWin : Fn Try.prog 194 .plain F_l_toWin := fn_of (cfgOk_of mixed tys_ok (show FnsOk Try.prog C_l_toWin from ⟨fn_l_toIntS, trivial⟩)) Try.func194 (by kernel_rfl) (by kernel_rfl) (fun cx b hp hb => all_of (by kernel_rfl : loopsOf (Try.f194.body.getD .skip) = []) trivial b hb) (R := (YWin)) (T := fun (d : aden P_l_toWin) => T_l_toWin d.1) e_l_toWin
def P_l_toEp : List (Bool × List Sh) := [(true, h_7)]
def O_l_toEp (r : (YEp)) : List RV × List RV := ([rv (true, h_7) r], [])
def C_l_toEp : Fns := [(58, .plain, F_l_toByteS), (194, .plain, F_l_toWin)]
def F_l_toEp : Fun1 := funV P_l_toEp (fun d => (T_l_toEp d.1).val) O_l_toEp
def Q_l_toEp : Loops := fun _ _ => .fail
theorem e_l_toEp : ∀ d, pcall ⟨lookT tys, ctrOf C_l_toEp, kindOf C_l_toEp, 3, 4⟩ 0 Q_l_toEp Try.f141 .plain (mkA P_l_toEp d) = (T_l_toEp d.1).run fun r => some (O_l_toEp r) := fun d => by kernel_rfl
theorem fn_l_toEp : Fn Try.prog 141 .plain F_l_toEp := fn_of (cfgOk_of mixed tys_ok (show FnsOk Try.prog C_l_toEp from ⟨fn_l_toByteS, fn_l_toWin, trivial⟩)) Try.func141 (by kernel_rfl) (by kernel_rfl) (fun cx b hp hb => all_of (by kernel_rfl : loopsOf (Try.f141.body.getD .skip) = []) trivial b hb) (R := (YEp)) (T := fun (d : aden P_l_toEp) => T_l_toEp d.1) e_l_toEp
def P_l_toChan : List (Bool × List Sh) := [(true, h_12)]
def O_l_toChan (r : (YChan)) : List RV × List RV := ([rv (true, h_12) r], [])
def C_l_toChan : Fns := [(58, .plain, F_l_toByteS), (141, .plain, F_l_toEp)]
def F_l_toChan : Fun1 := funV P_l_toChan (fun d => (T_l_toChan d.1).val) O_l_toChan
def Q_l_toChan : Loops := fun _ _ => .fail
theorem e_l_toChan : ∀ d, pcall ⟨lookT tys, ctrOf C_l_toChan, kindOf C_l_toChan, 3, 4⟩ 0 Q_l_toChan Try.f59 .plain (mkA P_l_toChan d) = (T_l_toChan d.1).run fun r => some (O_l_toChan r) := fun d => by kernel_rfl
theorem fn_l_toChan : Fn Try.prog 59 .plain F_l_toChan := fn_of (cfgOk_of mixed tys_ok (show FnsOk Try.prog C_l_toChan from ⟨fn_l_toByteS, fn_l_toEp, trivial⟩)) Try.func59 (by kernel_rfl) (by kernel_rfl) (fun cx b hp hb => all_of (by kernel_rfl : loopsOf (Try.f59.body.getD .skip) = []) trivial b hb) (R := (YChan)) (T := fun (d : aden P_l_toChan) => T_l_toChan d.1) e_l_toChan
def P_l_toAddr : List (Bool × List Sh) := [(true, [.int .i64, .int .i64])]
def O_l_toAddr (r : (YAddr)) : List RV × List RV := ([rv (true, [.int .i64, .int .i64]) r], [])
def C_l_toAddr : Fns := []
def F_l_toAddr : Fun1 := funV P_l_toAddr (fun d => (T_l_toAddr d.1).val) O_l_toAddr
def Q_l_toAddr : Loops := fun _ _ => .fail
theorem e_l_toAddr : ∀ d, pcall ⟨lookT tys, ctrOf C_l_toAddr, kindOf C_l_toAddr, 3, 4⟩ 0 Q_l_toAddr Try.f34 .plain (mkA P_l_toAddr d) = (T_l_toAddr d.1).run fun r => some (O_l_toAddr r) := fun d => by kernel_rfl
theorem fn_l_toAddr : Fn Try.prog 34 .plain F_l_toAddr := fn_of (cfgOk_of mixed tys_ok (show FnsOk Try.prog C_l_toAddr from trivial)) Try.func34 (by kernel_rfl) (by kernel_rfl) (fun cx b hp hb => all_of (by kernel_rfl : loopsOf (Try.f34.body.getD .skip) = []) trivial b hb) (R := (YAddr)) (T := fun (d : aden P_l_toAddr) => T_l_toAddr d.1) e_l_toAddr
def P_l_toCand : List (Bool × List Sh) := [(true, h_5)]
def O_l_toCand (r : (YCand)) : List RV × List RV := ([rv (true, h_5) r], [])
def C_l_toCand : Fns := [(34, .plain, F_l_toAddr), (58, .plain, F_l_toByteS)]
def F_l_toCand : Fun1 := funV P_l_toCand (fun d => (T_l_toCand d.1).val) O_l_toCand
def Q_l_toCand : Loops := fun _ _ => .fail
theorem e_l_toCand : ∀ d, pcall ⟨lookT tys, ctrOf C_l_toCand, kindOf C_l_toCand, 3, 4⟩ 0 Q_l_toCand Try.f195 .plain (mkA P_l_toCand d) = (T_l_toCand d.1).run fun r => some (O_l_toCand r) := fun d => by kernel_rfl
theorem fn_l_toCand : Fn Try.prog 195 .plain F_l_toCand := fn_of (cfgOk_of mixed tys_ok (show FnsOk Try.prog C_l_toCand from ⟨fn_l_toAddr, fn_l_toByteS, trivial⟩)) Try.func195 (by kernel_rfl) (by kernel_rfl) (fun cx b hp hb => all_of (by kernel_rfl : loopsOf (Try.f195.body.getD .skip) = []) trivial b hb) (R := (YCand)) (T := fun (d : aden P_l_toCand) => T_l_toCand d.1) e_l_toCand
def P_l_toCandS : List (Bool × List Sh) := [(false, [.sl 225 h_5])]
def O_l_toCandS (r : ((List YCand) × Unit)) : List RV × List RV := ([rv (false, [.sl 201 h_5]) r], [])
def C_l_toCandS : Fns := [(195, .plain, F_l_toCand)]
def F_l_toCandS : Fun1 := funV P_l_toCandS (fun d => (T_l_toCandS d.1).val) O_l_toCandS
def K_l_toCandS_3 : Sk := ⟨[(0, .v false [(.sl 225 h_5, .ro)]), (3, .v false [(.sl 201 h_5, (.own 4000000))]), (4, .v false [(.int .i64, .nil)])], [], [4000000]⟩
def X_l_toCandS_3 : List (Ex × Sk) := [((.exit 0), ⟨[(3, .v false [(.sl 201 h_5, (.own 4000000))])], [], [4000000]⟩)]
def Q_l_toCandS : Loops := fun i st => cond (Nat.beq i 3) (lam K_l_toCandS_3 4000000 X_l_toCandS_3 B_l_toCandS_3 st) <| .fail
theorem lp_l_toCandS_3 : ∀ d, bod ⟨lookT tys, ctrOf C_l_toCandS, kindOf C_l_toCandS, 3, 4⟩ 0 Try.f142.ntmps Q_l_toCandS (nthLoop Try.f142 0) K_l_toCandS_3 4000000 X_l_toCandS_3 d = B_l_toCandS_3 d := fun d => by kernel_rfl
theorem lo_l_toCandS_3 (cx : Cx) (hp : cx.pin.length ≤ 0) : LoopOk Try.prog cx Try.f142.ntmps Q_l_toCandS (nthLoop Try.f142 0) := loop_of (cfgOk_of mixed tys_ok (show FnsOk Try.prog C_l_toCandS from ⟨fn_l_toCand, trivial⟩)) hp (all_of (by kernel_rfl : loopsOf (nthLoop Try.f142 0) = []) trivial) (by kernel_rfl) lp_l_toCandS_3
theorem e_l_toCandS : ∀ d, pcall ⟨lookT tys, ctrOf C_l_toCandS, kindOf C_l_toCandS, 3, 4⟩ 0 Q_l_toCandS Try.f142 .plain (mkA P_l_toCandS d) = (T_l_toCandS d.1).run fun r => some (O_l_toCandS r) := fun d => by kernel_rfl
theorem fn_l_toCandS : Fn Try.prog 142 .plain F_l_toCandS := fn_of (cfgOk_of mixed tys_ok (show FnsOk Try.prog C_l_toCandS from ⟨fn_l_toCand, trivial⟩)) Try.func142 (by kernel_rfl) (by kernel_rfl) (fun cx b hp hb => all_of (by kernel_rfl : loopsOf (Try.f142.body.getD .skip) = [nthLoop Try.f142 0]) ⟨lo_l_toCandS_3 cx hp, trivial⟩ b hb) (R := ((List YCand) × Unit)) (T := fun (d : aden P_l_toCandS) => T_l_toCandS d.1) e_l_toCandS
def P_l_toPaths : List (Bool × List Sh) := [(true, h_8)]
def O_l_toPaths (r : (YPaths)) : List RV × List RV := ([rv (true, h_9) r], [])
def C_l_toPaths : Fns := [(34, .plain, F_l_toAddr), (142, .plain, F_l_toCandS)]
def F_l_toPaths : Fun1 := funV P_l_toPaths (fun d => (T_l_toPaths d.1).val) O_l_toPaths
def Q_l_toPaths : Loops := fun _ _ => .fail
theorem e_l_toPaths : ∀ d, pcall ⟨lookT tys, ctrOf C_l_toPaths, kindOf C_l_toPaths, 3, 4⟩ 0 Q_l_toPaths Try.f60 .plain (mkA P_l_toPaths d) = (T_l_toPaths d.1).run fun r => some (O_l_toPaths r) := fun d => by kernel_rfl
theorem fn_l_toPaths : Fn Try.prog 60 .plain F_l_toPaths := fn_of (cfgOk_of mixed tys_ok (show FnsOk Try.prog C_l_toPaths from ⟨fn_l_toAddr, fn_l_toCandS, trivial⟩)) Try.func60 (by kernel_rfl) (by kernel_rfl) (fun cx b hp hb => all_of (by kernel_rfl : loopsOf (Try.f60.body.getD .skip) = []) trivial b hb) (R := (YPaths)) (T := fun (d : aden P_l_toPaths) => T_l_toPaths d.1) e_l_toPaths
def P_l_toSess : List (Bool × List Sh) := [(true, h_13)]
def O_l_toSess (r : (YSess)) : List RV × List RV := ([rv (true, h_14) r], [])
def C_l_toSess : Fns := [(58, .plain, F_l_toByteS), (59, .plain, F_l_toChan), (60, .plain, F_l_toPaths)]
def F_l_toSess : Fun1 := funV P_l_toSess (fun d => (T_l_toSess d.1).val) O_l_toSess
def Q_l_toSess : Loops := fun _ _ => .fail
theorem e_l_toSess : ∀ d, pcall ⟨lookT tys, ctrOf C_l_toSess, kindOf C_l_toSess, 3, 4⟩ 0 Q_l_toSess Try.f11 .plain (mkA P_l_toSess d) = (T_l_toSess d.1).run fun r => some (O_l_toSess r) := fun d => by kernel_rfl
theorem fn_l_toSess : Fn Try.prog 11 .plain F_l_toSess := fn_of (cfgOk_of mixed tys_ok (show FnsOk Try.prog C_l_toSess from ⟨fn_l_toByteS, fn_l_toChan, fn_l_toPaths, trivial⟩)) Try.func11 (by kernel_rfl) (by kernel_rfl) (fun cx b hp hb => all_of (by kernel_rfl : loopsOf (Try.f11.body.getD .skip) = []) trivial b hb) (R := (YSess)) (T := fun (d : aden P_l_toSess) => T_l_toSess d.1) e_l_toSess
def P_s_l1In : List (Bool × List Sh) := [(false, [.int .i64]), (false, [.int .i64]), (false, [.int .i64])]
def O_s_l1In (r : (Bool × Unit)) : List RV × List RV := ([rv (false, [.bool]) r], [])
def C_s_l1In : Fns := []
def F_s_l1In : Fun1 := funV P_s_l1In (fun d => (T_s_l1In d.1 d.2.1 d.2.2.1).val) O_s_l1In
def Q_s_l1In : Loops := fun _ _ => .fail
theorem e_s_l1In : ∀ d, pcall ⟨lookT tys, ctrOf C_s_l1In, kindOf C_s_l1In, 3, 4⟩ 0 Q_s_l1In Try.f70 .plain (mkA P_s_l1In d) = (T_s_l1In d.1 d.2.1 d.2.2.1).run fun r => some (O_s_l1In r) := fun d => by kernel_rfl
theorem fn_s_l1In : Fn Try.prog 70 .plain F_s_l1In := fn_of (cfgOk_of mixed tys_ok (show FnsOk Try.prog C_s_l1In from trivial)) Try.func70 (by kernel_rfl) (by kernel_rfl) (fun cx b hp hb => all_of (by kernel_rfl : loopsOf (Try.f70.body.getD .skip) = []) trivial b hb) (R := (Bool × Unit)) (T := fun (d : aden P_s_l1In) => T_s_l1In d.1 d.2.1 d.2.2.1) e_s_l1In
def P_s_l14None : List (Bool × List Sh) := [(true, h_7)]
def O_s_l14None (r : (Bool × Unit)) : List RV × List RV := ([rv (false, [.bool]) r], [])
def C_s_l14None : Fns := []
def F_s_l14None : Fun1 := funV P_s_l14None (fun d => (T_s_l14None d.1).val) O_s_l14None
def Q_s_l14None : Loops := fun _ _ => .fail
theorem e_s_l14None : ∀ d, pcall ⟨lookT tys, ctrOf C_s_l14None, kindOf C_s_l14None, 3, 4⟩ 0 Q_s_l14None Try.f190 .plain (mkA P_s_l14None d) = (T_s_l14None d.1).run fun r => some (O_s_l14None r) := fun d => by kernel_rfl
theorem fn_s_l14None : Fn Try.prog 190 .plain F_s_l14None := fn_of (cfgOk_of mixed tys_ok (show FnsOk Try.prog C_s_l14None from trivial)) Try.func190 (by kernel_rfl) (by kernel_rfl) (fun cx b hp hb => all_of (by kernel_rfl : loopsOf (Try.f190.body.getD .skip) = []) trivial b hb) (R := (Bool × Unit)) (T := fun (d : aden P_s_l14None) => T_s_l14None d.1) e_s_l14None
def P_s_l19NoChan : List (Bool × List Sh) := [(true, h_12)]
def O_s_l19NoChan (r : (Bool × Unit)) : List RV × List RV := ([rv (false, [.bool]) r], [])
def C_s_l19NoChan : Fns := [(190, .plain, F_s_l14None)]
def F_s_l19NoChan : Fun1 := funV P_s_l19NoChan (fun d => (T_s_l19NoChan d.1).val) O_s_l19NoChan
def Q_s_l19NoChan : Loops := fun _ _ => .fail
theorem e_s_l19NoChan : ∀ d, pcall ⟨lookT tys, ctrOf C_s_l19NoChan, kindOf C_s_l19NoChan, 3, 4⟩ 0 Q_s_l19NoChan Try.f134 .plain (mkA P_s_l19NoChan d) = (T_s_l19NoChan d.1).run fun r => some (O_s_l19NoChan r) := fun d => by kernel_rfl
theorem fn_s_l19NoChan : Fn Try.prog 134 .plain F_s_l19NoChan := fn_of (cfgOk_of mixed tys_ok (show FnsOk Try.prog C_s_l19NoChan from ⟨fn_s_l14None, trivial⟩)) Try.func134 (by kernel_rfl) (by kernel_rfl) (fun cx b hp hb => all_of (by kernel_rfl : loopsOf (Try.f134.body.getD .skip) = []) trivial b hb) (R := (Bool × Unit)) (T := fun (d : aden P_s_l19NoChan) => T_s_l19NoChan d.1) e_s_l19NoChan
def P_s_Near : List (Bool × List Sh) := [(false, [.int .i64])]
def O_s_Near (r : (YAddr)) : List RV × List RV := ([rv (true, [.int .i64, .int .i64]) r], [])
def C_s_Near : Fns := [(70, .plain, F_s_l1In)]
def F_s_Near : Fun1 := funV P_s_Near (fun d => (T_s_Near d.1).val) O_s_Near
def Q_s_Near : Loops := fun _ _ => .fail
theorem e_s_Near : ∀ d, pcall ⟨lookT tys, ctrOf C_s_Near, kindOf C_s_Near, 3, 4⟩ 0 Q_s_Near Try.f135 .plain (mkA P_s_Near d) = (T_s_Near d.1).run fun r => some (O_s_Near r) := fun d => by kernel_rfl
theorem fn_s_Near : Fn Try.prog 135 .plain F_s_Near := fn_of (cfgOk_of mixed tys_ok (show FnsOk Try.prog C_s_Near from ⟨fn_s_l1In, trivial⟩)) Try.func135 (by kernel_rfl) (by kernel_rfl) (fun cx b hp hb => all_of (by kernel_rfl : loopsOf (Try.f135.body.getD .skip) = []) trivial b hb) (R := (YAddr)) (T := fun (d : aden P_s_Near) => T_s_Near d.1) e_s_Near
def P_s_l8Bit : List (Bool × List Sh) := [(true, [.int .i64, .sl 3 [.int .i64]]), (false, [.int .i64])]
def O_s_l8Bit (r : (Bool × Unit)) : List RV × List RV := ([rv (false, [.bool]) r], [])
def C_s_l8Bit : Fns := []
def F_s_l8Bit : Fun1 := funV P_s_l8Bit (fun d => (T_s_l8Bit d.1 d.2.1).val) O_s_l8Bit
def Q_s_l8Bit : Loops := fun _ _ => .fail
theorem e_s_l8Bit : ∀ d, pcall ⟨lookT tys, ctrOf C_s_l8Bit, kindOf C_s_l8Bit, 3, 4⟩ 0 Q_s_l8Bit Try.f239 .plain (mkA P_s_l8Bit d) = (T_s_l8Bit d.1 d.2.1).run fun r => some (O_s_l8Bit r) := fun d => by kernel_rfl
theorem fn_s_l8Bit : Fn Try.prog 239 .plain F_s_l8Bit := fn_of (cfgOk_of mixed tys_ok (show FnsOk Try.prog C_s_l8Bit from trivial)) Try.func239 (by kernel_rfl) (by kernel_rfl) (fun cx b hp hb => all_of (by kernel_rfl : loopsOf (Try.f239.body.getD .skip) = []) trivial b hb) (R := (Bool × Unit)) (T := fun (d : aden P_s_l8Bit) => T_s_l8Bit d.1 d.2.1) e_s_l8Bit
def P_s_WinOk : List (Bool × List Sh) := [(true, [.int .i64, .sl 3 [.int .i64]])]
def O_s_WinOk (r : (Bool × Unit)) : List RV × List RV := ([rv (false, [.bool]) r], [])
def C_s_WinOk : Fns := [(70, .plain, F_s_l1In), (239, .plain, F_s_l8Bit)]
def F_s_WinOk : Fun1 := funV P_s_WinOk (fun d => (T_s_WinOk d.1).val) O_s_WinOk
def K_s_WinOk_11 : Sk := ⟨[(1, .box 1 0), (4, .v false [(.int .i64, .nil)])], [(1, [(.int .i64, .nil), (.sl 3 [.int .i64], .ro)])], []⟩
def X_s_WinOk_11 : List (Ex × Sk) := [(.ret, ⟨[(2, .v false [(.bool, .nil)])], [], []⟩), ((.exit 2), ⟨[], [], []⟩)]
def K_s_WinOk_4 : Sk := ⟨[(1, .box 1 0), (3, .v false [(.int .i64, .nil)])], [(1, [(.int .i64, .nil), (.sl 3 [.int .i64], .ro)])], []⟩
def X_s_WinOk_4 : List (Ex × Sk) := [(.ret, ⟨[(2, .v false [(.bool, .nil)])], [], []⟩), ((.exit 0), ⟨[(1, .box 1 0)], [(1, [(.int .i64, .nil), (.sl 3 [.int .i64], .ro)])], []⟩)]
def Q_s_WinOk : Loops := fun i st => cond (Nat.beq i 4) (lam K_s_WinOk_4 5000000 X_s_WinOk_4 B_s_WinOk_4 st) <| cond (Nat.beq i 11) (lam K_s_WinOk_11 12000000 X_s_WinOk_11 B_s_WinOk_11 st) <| .fail
theorem lp_s_WinOk_4 : ∀ d, bod ⟨lookT tys, ctrOf C_s_WinOk, kindOf C_s_WinOk, 3, 4⟩ 0 Try.f219.ntmps Q_s_WinOk (nthLoop Try.f219 0) K_s_WinOk_4 5000000 X_s_WinOk_4 d = B_s_WinOk_4 d := fun d => by kernel_rfl
theorem lo_s_WinOk_4 (cx : Cx) (hp : cx.pin.length ≤ 0) : LoopOk Try.prog cx Try.f219.ntmps Q_s_WinOk (nthLoop Try.f219 0) := loop_of (cfgOk_of mixed tys_ok (show FnsOk Try.prog C_s_WinOk from ⟨fn_s_l1In, fn_s_l8Bit, trivial⟩)) hp (all_of (by kernel_rfl : loopsOf (nthLoop Try.f219 0) = []) trivial) (by kernel_rfl) lp_s_WinOk_4
theorem lp_s_WinOk_11 : ∀ d, bod ⟨lookT tys, ctrOf C_s_WinOk, kindOf C_s_WinOk, 3, 4⟩ 0 Try.f219.ntmps Q_s_WinOk (nthLoop Try.f219 1) K_s_WinOk_11 12000000 X_s_WinOk_11 d = B_s_WinOk_11 d := fun d => by kernel_rfl
theorem lo_s_WinOk_11 (cx : Cx) (hp : cx.pin.length ≤ 0) : LoopOk Try.prog cx Try.f219.ntmps Q_s_WinOk (nthLoop Try.f219 1) := loop_of (cfgOk_of mixed tys_ok (show FnsOk Try.prog C_s_WinOk from ⟨fn_s_l1In, fn_s_l8Bit, trivial⟩)) hp (all_of (by kernel_rfl : loopsOf (nthLoop Try.f219 1) = []) trivial) (by kernel_rfl) lp_s_WinOk_11
theorem e_s_WinOk : ∀ d, pcall ⟨lookT tys, ctrOf C_s_WinOk, kindOf C_s_WinOk, 3, 4⟩ 0 Q_s_WinOk Try.f219 .plain (mkA P_s_WinOk d) = (T_s_WinOk d.1).run fun r => some (O_s_WinOk r) := fun d => by kernel_rfl
theorem fn_s_WinOk : Fn Try.prog 219 .plain F_s_WinOk := fn_of (cfgOk_of mixed tys_ok (show FnsOk Try.prog C_s_WinOk from ⟨fn_s_l1In, fn_s_l8Bit, trivial⟩)) Try.func219 (by kernel_rfl) (by kernel_rfl) (fun cx b hp hb => all_of (by kernel_rfl : loopsOf (Try.f219.body.getD .skip) = [nthLoop Try.f219 0, nthLoop Try.f219 1]) ⟨lo_s_WinOk_4 cx hp, lo_s_WinOk_11 cx hp, trivial⟩ b hb) (R := (Bool × Unit)) (T := fun (d : aden P_s_WinOk) => T_s_WinOk d.1) e_s_WinOk
def P_s_EpOk : List (Bool × List Sh) := [(true, h_7)]
def O_s_EpOk (r : (Bool × Unit)) : List RV × List RV := ([rv (false, [.bool]) r], [])
def C_s_EpOk : Fns := [(70, .plain, F_s_l1In), (219, .plain, F_s_WinOk)]
def F_s_EpOk : Fun1 := funV P_s_EpOk (fun d => (T_s_EpOk d.1).val) O_s_EpOk
def Q_s_EpOk : Loops := fun _ _ => .fail
theorem e_s_EpOk : ∀ d, pcall ⟨lookT tys, ctrOf C_s_EpOk, kindOf C_s_EpOk, 3, 4⟩ 0 Q_s_EpOk Try.f191 .plain (mkA P_s_EpOk d) = (T_s_EpOk d.1).run fun r => some (O_s_EpOk r) := fun d => by kernel_rfl
theorem fn_s_EpOk : Fn Try.prog 191 .plain F_s_EpOk := fn_of (cfgOk_of mixed tys_ok (show FnsOk Try.prog C_s_EpOk from ⟨fn_s_l1In, fn_s_WinOk, trivial⟩)) Try.func191 (by kernel_rfl) (by kernel_rfl) (fun cx b hp hb => all_of (by kernel_rfl : loopsOf (Try.f191.body.getD .skip) = []) trivial b hb) (R := (Bool × Unit)) (T := fun (d : aden P_s_EpOk) => T_s_EpOk d.1) e_s_EpOk
def P_s_ChanOk : List (Bool × List Sh) := [(true, h_12)]
def O_s_ChanOk (r : (Bool × Unit)) : List RV × List RV := ([rv (false, [.bool]) r], [])
def C_s_ChanOk : Fns := [(70, .plain, F_s_l1In), (191, .plain, F_s_EpOk), (190, .plain, F_s_l14None)]
def F_s_ChanOk : Fun1 := funV P_s_ChanOk (fun d => (T_s_ChanOk d.1).val) O_s_ChanOk
def Q_s_ChanOk : Loops := fun _ _ => .fail
theorem e_s_ChanOk : ∀ d, pcall ⟨lookT tys, ctrOf C_s_ChanOk, kindOf C_s_ChanOk, 3, 4⟩ 0 Q_s_ChanOk Try.f136 .plain (mkA P_s_ChanOk d) = (T_s_ChanOk d.1).run fun r => some (O_s_ChanOk r) := fun d => by kernel_rfl
theorem fn_s_ChanOk : Fn Try.prog 136 .plain F_s_ChanOk := fn_of (cfgOk_of mixed tys_ok (show FnsOk Try.prog C_s_ChanOk from ⟨fn_s_l1In, fn_s_EpOk, fn_s_l14None, trivial⟩)) Try.func136 (by kernel_rfl) (by kernel_rfl) (fun cx b hp hb => all_of (by kernel_rfl : loopsOf (Try.f136.body.getD .skip) = []) trivial b hb) (R := (Bool × Unit)) (T := fun (d : aden P_s_ChanOk) => T_s_ChanOk d.1) e_s_ChanOk
def P_s_l1Same : List (Bool × List Sh) := [(false, [.sl 5 [.int .u8]]), (false, [.sl 5 [.int .u8]])]
def O_s_l1Same (r : (Bool × Unit)) : List RV × List RV := ([rv (false, [.bool]) r], [])
def C_s_l1Same : Fns := []
def F_s_l1Same : Fun1 := funV P_s_l1Same (fun d => (T_s_l1Same d.1 d.2.1).val) O_s_l1Same
def Q_s_l1Same : Loops := fun _ _ => .fail
theorem e_s_l1Same : ∀ d, pcall ⟨lookT tys, ctrOf C_s_l1Same, kindOf C_s_l1Same, 3, 4⟩ 0 Q_s_l1Same Try.f137 .plain (mkA P_s_l1Same d) = (T_s_l1Same d.1 d.2.1).run fun r => some (O_s_l1Same r) := fun d => by kernel_rfl
theorem fn_s_l1Same : Fn Try.prog 137 .plain F_s_l1Same := fn_of (cfgOk_of mixed tys_ok (show FnsOk Try.prog C_s_l1Same from trivial)) Try.func137 (by kernel_rfl) (by kernel_rfl) (fun cx b hp hb => all_of (by kernel_rfl : loopsOf (Try.f137.body.getD .skip) = []) trivial b hb) (R := (Bool × Unit)) (T := fun (d : aden P_s_l1Same) => T_s_l1Same d.1 d.2.1) e_s_l1Same
def P_s_AddrOk : List (Bool × List Sh) := [(true, [.int .i64, .int .i64])]
def O_s_AddrOk (r : (Bool × Unit)) : List RV × List RV := ([rv (false, [.bool]) r], [])
def C_s_AddrOk : Fns := [(70, .plain, F_s_l1In)]
def F_s_AddrOk : Fun1 := funV P_s_AddrOk (fun d => (T_s_AddrOk d.1).val) O_s_AddrOk
def Q_s_AddrOk : Loops := fun _ _ => .fail
theorem e_s_AddrOk : ∀ d, pcall ⟨lookT tys, ctrOf C_s_AddrOk, kindOf C_s_AddrOk, 3, 4⟩ 0 Q_s_AddrOk Try.f114 .plain (mkA P_s_AddrOk d) = (T_s_AddrOk d.1).run fun r => some (O_s_AddrOk r) := fun d => by kernel_rfl
theorem fn_s_AddrOk : Fn Try.prog 114 .plain F_s_AddrOk := fn_of (cfgOk_of mixed tys_ok (show FnsOk Try.prog C_s_AddrOk from ⟨fn_s_l1In, trivial⟩)) Try.func114 (by kernel_rfl) (by kernel_rfl) (fun cx b hp hb => all_of (by kernel_rfl : loopsOf (Try.f114.body.getD .skip) = []) trivial b hb) (R := (Bool × Unit)) (T := fun (d : aden P_s_AddrOk) => T_s_AddrOk d.1) e_s_AddrOk
def P_s_PathsOk : List (Bool × List Sh) := [(true, h_9)]
def O_s_PathsOk (r : (Bool × Unit)) : List RV × List RV := ([rv (false, [.bool]) r], [])
def C_s_PathsOk : Fns := [(114, .plain, F_s_AddrOk), (70, .plain, F_s_l1In)]
def F_s_PathsOk : Fun1 := funV P_s_PathsOk (fun d => (T_s_PathsOk d.1).val) O_s_PathsOk
def K_s_PathsOk_4 : Sk := ⟨[(1, .box 1 0), (3, .v false [(.int .i64, .nil)])], [(1, [(.int .i64, .nil), (.int .i64, .nil), (.sl 201 h_5, .ro)])], []⟩
def X_s_PathsOk_4 : List (Ex × Sk) := [(.ret, ⟨[(2, .v false [(.bool, .nil)])], [], []⟩), ((.exit 0), ⟨[], [], []⟩)]
def K_s_PathsOk_10 : Sk := ⟨[(1, .box 1 0), (3, .v false [(.int .i64, .nil)]), (4, .box 4 0), (5, .v false [(.int .i64, .nil)])], [(1, [(.int .i64, .nil), (.int .i64, .nil), (.sl 201 h_5, .ro)]), (4, [(.int .i64, .nil), (.int .i64, .nil), (.sl 5 [.int .u8], .ro), (.int .i64, .nil)])], []⟩
def X_s_PathsOk_10 : List (Ex × Sk) := [(.ret, ⟨[(2, .v false [(.bool, .nil)])], [], []⟩), ((.exit 2), ⟨[(1, .box 1 0), (3, .v false [(.int .i64, .nil)])], [(1, [(.int .i64, .nil), (.int .i64, .nil), (.sl 201 h_5, .ro)])], []⟩)]
def Q_s_PathsOk : Loops := fun i st => cond (Nat.beq i 10) (lam K_s_PathsOk_10 11000000 X_s_PathsOk_10 B_s_PathsOk_10 st) <| cond (Nat.beq i 4) (lam K_s_PathsOk_4 5000000 X_s_PathsOk_4 B_s_PathsOk_4 st) <| .fail
theorem lp_s_PathsOk_10 : ∀ d, bod ⟨lookT tys, ctrOf C_s_PathsOk, kindOf C_s_PathsOk, 3, 4⟩ 0 Try.f138.ntmps Q_s_PathsOk (nthLoop Try.f138 1) K_s_PathsOk_10 11000000 X_s_PathsOk_10 d = B_s_PathsOk_10 d := fun d => by kernel_rfl
theorem lo_s_PathsOk_10 (cx : Cx) (hp : cx.pin.length ≤ 0) : LoopOk Try.prog cx Try.f138.ntmps Q_s_PathsOk (nthLoop Try.f138 1) := loop_of (cfgOk_of mixed tys_ok (show FnsOk Try.prog C_s_PathsOk from ⟨fn_s_AddrOk, fn_s_l1In, trivial⟩)) hp (all_of (by kernel_rfl : loopsOf (nthLoop Try.f138 1) = []) trivial) (by kernel_rfl) lp_s_PathsOk_10
theorem lp_s_PathsOk_4 : ∀ d, bod ⟨lookT tys, ctrOf C_s_PathsOk, kindOf C_s_PathsOk, 3, 4⟩ 0 Try.f138.ntmps Q_s_PathsOk (nthLoop Try.f138 0) K_s_PathsOk_4 5000000 X_s_PathsOk_4 d = B_s_PathsOk_4 d := fun d => by kernel_rfl
theorem lo_s_PathsOk_4 (cx : Cx) (hp : cx.pin.length ≤ 0) : LoopOk Try.prog cx Try.f138.ntmps Q_s_PathsOk (nthLoop Try.f138 0) := loop_of (cfgOk_of mixed tys_ok (show FnsOk Try.prog C_s_PathsOk from ⟨fn_s_AddrOk, fn_s_l1In, trivial⟩)) hp (all_of (by kernel_rfl : loopsOf (nthLoop Try.f138 0) = [nthLoop Try.f138 1]) ⟨lo_s_PathsOk_10 cx hp, trivial⟩) (by kernel_rfl) lp_s_PathsOk_4
theorem e_s_PathsOk : ∀ d, pcall ⟨lookT tys, ctrOf C_s_PathsOk, kindOf C_s_PathsOk, 3, 4⟩ 0 Q_s_PathsOk Try.f138 .plain (mkA P_s_PathsOk d) = (T_s_PathsOk d.1).run fun r => some (O_s_PathsOk r) := fun d => by kernel_rfl
theorem fn_s_PathsOk : Fn Try.prog 138 .plain F_s_PathsOk := fn_of (cfgOk_of mixed tys_ok (show FnsOk Try.prog C_s_PathsOk from ⟨fn_s_AddrOk, fn_s_l1In, trivial⟩)) Try.func138 (by kernel_rfl) (by kernel_rfl) (fun cx b hp hb => all_of (by kernel_rfl : loopsOf (Try.f138.body.getD .skip) = [nthLoop Try.f138 0]) ⟨lo_s_PathsOk_4 cx hp, trivial⟩ b hb) (R := (Bool × Unit)) (T := fun (d : aden P_s_PathsOk) => T_s_PathsOk d.1) e_s_PathsOk
def P_s_SessOk : List (Bool × List Sh) := [(true, h_14)]
def O_s_SessOk (r : (Bool × Unit)) : List RV × List RV := ([rv (false, [.bool]) r], [])
def C_s_SessOk : Fns := [(70, .plain, F_s_l1In), (134, .plain, F_s_l19NoChan), (135, .plain, F_s_Near), (136, .plain, F_s_ChanOk), (137, .plain, F_s_l1Same), (138, .plain, F_s_PathsOk)]
def F_s_SessOk : Fun1 := funV P_s_SessOk (fun d => (T_s_SessOk d.1).val) O_s_SessOk
def Q_s_SessOk : Loops := fun _ _ => .fail
theorem e_s_SessOk : ∀ d, pcall ⟨lookT tys, ctrOf C_s_SessOk, kindOf C_s_SessOk, 3, 4⟩ 0 Q_s_SessOk Try.f56 .plain (mkA P_s_SessOk d) = (T_s_SessOk d.1).run fun r => some (O_s_SessOk r) := fun d => by kernel_rfl
theorem fn_s_SessOk : Fn Try.prog 56 .plain F_s_SessOk := fn_of (cfgOk_of mixed tys_ok (show FnsOk Try.prog C_s_SessOk from ⟨fn_s_l1In, fn_s_l19NoChan, fn_s_Near, fn_s_ChanOk, fn_s_l1Same, fn_s_PathsOk, trivial⟩)) Try.func56 (by kernel_rfl) (by kernel_rfl) (fun cx b hp hb => all_of (by kernel_rfl : loopsOf (Try.f56.body.getD .skip) = []) trivial b hb) (R := (Bool × Unit)) (T := fun (d : aden P_s_SessOk) => T_s_SessOk d.1) e_s_SessOk
def P_s_l8Copy : List (Bool × List Sh) := [(true, [.int .i64, .sl 3 [.int .i64]])]
def O_s_l8Copy (r : (YWin)) : List RV × List RV := ([rv (true, [.int .i64, .sl 3 [.int .i64]]) r], [])
def C_s_l8Copy : Fns := []
def F_s_l8Copy : Fun1 := funV P_s_l8Copy (fun d => (T_s_l8Copy d.1).val) O_s_l8Copy
def Q_s_l8Copy : Loops := fun _ _ => .fail
theorem e_s_l8Copy : ∀ d, pcall ⟨lookT tys, ctrOf C_s_l8Copy, kindOf C_s_l8Copy, 3, 4⟩ 0 Q_s_l8Copy Try.f220 .plain (mkA P_s_l8Copy d) = (T_s_l8Copy d.1).run fun r => some (O_s_l8Copy r) := fun d => by kernel_rfl
theorem fn_s_l8Copy : Fn Try.prog 220 .plain F_s_l8Copy := fn_of (cfgOk_of mixed tys_ok (show FnsOk Try.prog C_s_l8Copy from trivial)) Try.func220 (by kernel_rfl) (by kernel_rfl) (fun cx b hp hb => all_of (by kernel_rfl : loopsOf (Try.f220.body.getD .skip) = []) trivial b hb) (R := (YWin)) (T := fun (d : aden P_s_l8Copy) => T_s_l8Copy d.1) e_s_l8Copy
def P_s_l9Copy : List (Bool × List Sh) := [(true, h_7)]
def O_s_l9Copy (r : (YEp)) : List RV × List RV := ([rv (true, h_7) r], [])
def C_s_l9Copy : Fns := [(220, .plain, F_s_l8Copy)]
def F_s_l9Copy : Fun1 := funV P_s_l9Copy (fun d => (T_s_l9Copy d.1).val) O_s_l9Copy
def Q_s_l9Copy : Loops := fun _ _ => .fail
theorem e_s_l9Copy : ∀ d, pcall ⟨lookT tys, ctrOf C_s_l9Copy, kindOf C_s_l9Copy, 3, 4⟩ 0 Q_s_l9Copy Try.f192 .plain (mkA P_s_l9Copy d) = (T_s_l9Copy d.1).run fun r => some (O_s_l9Copy r) := fun d => by kernel_rfl
theorem fn_s_l9Copy : Fn Try.prog 192 .plain F_s_l9Copy := fn_of (cfgOk_of mixed tys_ok (show FnsOk Try.prog C_s_l9Copy from ⟨fn_s_l8Copy, trivial⟩)) Try.func192 (by kernel_rfl) (by kernel_rfl) (fun cx b hp hb => all_of (by kernel_rfl : loopsOf (Try.f192.body.getD .skip) = []) trivial b hb) (R := (YEp)) (T := fun (d : aden P_s_l9Copy) => T_s_l9Copy d.1) e_s_l9Copy
def P_s_l14Ep : List (Bool × List Sh) := [(true, h_7), (false, [.bool])]
def O_s_l14Ep (r : (YEp)) : List RV × List RV := ([rv (true, h_7) r], [])
def C_s_l14Ep : Fns := [(192, .plain, F_s_l9Copy)]
def F_s_l14Ep : Fun1 := funV P_s_l14Ep (fun d => (T_s_l14Ep d.1 d.2.1).val) O_s_l14Ep
def Q_s_l14Ep : Loops := fun _ _ => .fail
theorem e_s_l14Ep : ∀ d, pcall ⟨lookT tys, ctrOf C_s_l14Ep, kindOf C_s_l14Ep, 3, 4⟩ 0 Q_s_l14Ep Try.f193 .plain (mkA P_s_l14Ep d) = (T_s_l14Ep d.1 d.2.1).run fun r => some (O_s_l14Ep r) := fun d => by kernel_rfl
theorem fn_s_l14Ep : Fn Try.prog 193 .plain F_s_l14Ep := fn_of (cfgOk_of mixed tys_ok (show FnsOk Try.prog C_s_l14Ep from ⟨fn_s_l9Copy, trivial⟩)) Try.func193 (by kernel_rfl) (by kernel_rfl) (fun cx b hp hb => all_of (by kernel_rfl : loopsOf (Try.f193.body.getD .skip) = []) trivial b hb) (R := (YEp)) (T := fun (d : aden P_s_l14Ep) => T_s_l14Ep d.1 d.2.1) e_s_l14Ep
def P_s_l14Copy : List (Bool × List Sh) := [(true, h_12)]
def O_s_l14Copy (r : (YChan)) : List RV × List RV := ([rv (true, h_12) r], [])
def C_s_l14Copy : Fns := [(192, .plain, F_s_l9Copy), (193, .plain, F_s_l14Ep)]
def F_s_l14Copy : Fun1 := funV P_s_l14Copy (fun d => (T_s_l14Copy d.1).val) O_s_l14Copy
def Q_s_l14Copy : Loops := fun _ _ => .fail
theorem e_s_l14Copy : ∀ d, pcall ⟨lookT tys, ctrOf C_s_l14Copy, kindOf C_s_l14Copy, 3, 4⟩ 0 Q_s_l14Copy Try.f139 .plain (mkA P_s_l14Copy d) = (T_s_l14Copy d.1).run fun r => some (O_s_l14Copy r) := fun d => by kernel_rfl
theorem fn_s_l14Copy : Fn Try.prog 139 .plain F_s_l14Copy := fn_of (cfgOk_of mixed tys_ok (show FnsOk Try.prog C_s_l14Copy from ⟨fn_s_l9Copy, fn_s_l14Ep, trivial⟩)) Try.func139 (by kernel_rfl) (by kernel_rfl) (fun cx b hp hb => all_of (by kernel_rfl : loopsOf (Try.f139.body.getD .skip) = []) trivial b hb) (R := (YChan)) (T := fun (d : aden P_s_l14Copy) => T_s_l14Copy d.1) e_s_l14Copy
def P_s_l16Cand : List (Bool × List Sh) := [(true, h_5)]
def O_s_l16Cand (r : (YCand)) : List RV × List RV := ([rv (true, h_5) r], [])
def C_s_l16Cand : Fns := []
def F_s_l16Cand : Fun1 := funV P_s_l16Cand (fun d => (T_s_l16Cand d.1).val) O_s_l16Cand
def Q_s_l16Cand : Loops := fun _ _ => .fail
theorem e_s_l16Cand : ∀ d, pcall ⟨lookT tys, ctrOf C_s_l16Cand, kindOf C_s_l16Cand, 3, 4⟩ 0 Q_s_l16Cand Try.f156 .plain (mkA P_s_l16Cand d) = (T_s_l16Cand d.1).run fun r => some (O_s_l16Cand r) := fun d => by kernel_rfl
theorem fn_s_l16Cand : Fn Try.prog 156 .plain F_s_l16Cand := fn_of (cfgOk_of mixed tys_ok (show FnsOk Try.prog C_s_l16Cand from trivial)) Try.func156 (by kernel_rfl) (by kernel_rfl) (fun cx b hp hb => all_of (by kernel_rfl : loopsOf (Try.f156.body.getD .skip) = []) trivial b hb) (R := (YCand)) (T := fun (d : aden P_s_l16Cand) => T_s_l16Cand d.1) e_s_l16Cand
def P_s_l16Copy : List (Bool × List Sh) := [(true, h_9)]
def O_s_l16Copy (r : (YPaths)) : List RV × List RV := ([rv (true, h_9) r], [])
def C_s_l16Copy : Fns := [(156, .plain, F_s_l16Cand)]
def F_s_l16Copy : Fun1 := funV P_s_l16Copy (fun d => (T_s_l16Copy d.1).val) O_s_l16Copy
def K_s_l16Copy_3 : Sk := ⟨[(1, .box 1 0), (2, .box 2 0), (3, .box 3 0), (4, .v false [(.int .i64, .nil)])], [(1, [(.int .i64, .nil), (.int .i64, .nil), (.sl 201 h_5, .ro)]), (2, [(.int .i64, .nil), (.int .i64, .nil), (.sl 201 h_5, (.own 4000000))]), (3, [(.int .i64, .nil), (.int .i64, .nil), (.sl 201 h_5, (.own 4000001))])], [4000000, 4000001]⟩
def X_s_l16Copy_3 : List (Ex × Sk) := [((.exit 0), ⟨[(2, .box 2 0), (3, .box 3 0)], [(2, [(.int .i64, .nil), (.int .i64, .nil), (.sl 201 h_5, (.own 4000000))]), (3, [(.int .i64, .nil), (.int .i64, .nil), (.sl 201 h_5, (.own 4000001))])], [4000000, 4000001]⟩)]
def Q_s_l16Copy : Loops := fun i st => cond (Nat.beq i 3) (lam K_s_l16Copy_3 4000000 X_s_l16Copy_3 B_s_l16Copy_3 st) <| .fail
theorem lp_s_l16Copy_3 : ∀ d, bod ⟨lookT tys, ctrOf C_s_l16Copy, kindOf C_s_l16Copy, 3, 4⟩ 0 Try.f140.ntmps Q_s_l16Copy (nthLoop Try.f140 0) K_s_l16Copy_3 4000000 X_s_l16Copy_3 d = B_s_l16Copy_3 d := fun d => by kernel_rfl
theorem lo_s_l16Copy_3 (cx : Cx) (hp : cx.pin.length ≤ 0) : LoopOk Try.prog cx Try.f140.ntmps Q_s_l16Copy (nthLoop Try.f140 0) := loop_of (cfgOk_of mixed tys_ok (show FnsOk Try.prog C_s_l16Copy from ⟨fn_s_l16Cand, trivial⟩)) hp (all_of (by kernel_rfl : loopsOf (nthLoop Try.f140 0) = []) trivial) (by kernel_rfl) lp_s_l16Copy_3
theorem e_s_l16Copy : ∀ d, pcall ⟨lookT tys, ctrOf C_s_l16Copy, kindOf C_s_l16Copy, 3, 4⟩ 0 Q_s_l16Copy Try.f140 .plain (mkA P_s_l16Copy d) = (T_s_l16Copy d.1).run fun r => some (O_s_l16Copy r) := fun d => by kernel_rfl
theorem fn_s_l16Copy : Fn Try.prog 140 .plain F_s_l16Copy := fn_of (cfgOk_of mixed tys_ok (show FnsOk Try.prog C_s_l16Copy from ⟨fn_s_l16Cand, trivial⟩)) Try.func140 (by kernel_rfl) (by kernel_rfl) (fun cx b hp hb => all_of (by kernel_rfl : loopsOf (Try.f140.body.getD .skip) = [nthLoop Try.f140 0]) ⟨lo_s_l16Copy_3 cx hp, trivial⟩ b hb) (R := (YPaths)) (T := fun (d : aden P_s_l16Copy) => T_s_l16Copy d.1) e_s_l16Copy
def P_s_l20Copy : List (Bool × List Sh) := [(true, h_14)]
def O_s_l20Copy (r : (YSess)) : List RV × List RV := ([rv (true, h_14) r], [])
def C_s_l20Copy : Fns := [(139, .plain, F_s_l14Copy), (140, .plain, F_s_l16Copy)]
def F_s_l20Copy : Fun1 := funV P_s_l20Copy (fun d => (T_s_l20Copy d.1).val) O_s_l20Copy
def Q_s_l20Copy : Loops := fun _ _ => .fail
theorem e_s_l20Copy : ∀ d, pcall ⟨lookT tys, ctrOf C_s_l20Copy, kindOf C_s_l20Copy, 3, 4⟩ 0 Q_s_l20Copy Try.f57 .plain (mkA P_s_l20Copy d) = (T_s_l20Copy d.1).run fun r => some (O_s_l20Copy r) := fun d => by kernel_rfl
theorem fn_s_l20Copy : Fn Try.prog 57 .plain F_s_l20Copy := fn_of (cfgOk_of mixed tys_ok (show FnsOk Try.prog C_s_l20Copy from ⟨fn_s_l14Copy, fn_s_l16Copy, trivial⟩)) Try.func57 (by kernel_rfl) (by kernel_rfl) (fun cx b hp hb => all_of (by kernel_rfl : loopsOf (Try.f57.body.getD .skip) = []) trivial b hb) (R := (YSess)) (T := fun (d : aden P_s_l20Copy) => T_s_l20Copy d.1) e_s_l20Copy
def P_s_Bury : List (Bool × List Sh) := [(true, h_14)]
def O_s_Bury (r : (YSess)) : List RV × List RV := ([rv (true, h_14) r], [])
def C_s_Bury : Fns := [(56, .plain, F_s_SessOk), (57, .plain, F_s_l20Copy)]
def F_s_Bury : Fun1 := funV P_s_Bury (fun d => (T_s_Bury d.1).val) O_s_Bury
def Q_s_Bury : Loops := fun _ _ => .fail
theorem e_s_Bury : ∀ d, pcall ⟨lookT tys, ctrOf C_s_Bury, kindOf C_s_Bury, 3, 4⟩ 0 Q_s_Bury Try.f10 .plain (mkA P_s_Bury d) = (T_s_Bury d.1).run fun r => some (O_s_Bury r) := fun d => by kernel_rfl
theorem fn_s_Bury : Fn Try.prog 10 .plain F_s_Bury := fn_of (cfgOk_of mixed tys_ok (show FnsOk Try.prog C_s_Bury from ⟨fn_s_SessOk, fn_s_l20Copy, trivial⟩)) Try.func10 (by kernel_rfl) (by kernel_rfl) (fun cx b hp hb => all_of (by kernel_rfl : loopsOf (Try.f10.body.getD .skip) = []) trivial b hb) (R := (YSess)) (T := fun (d : aden P_s_Bury) => T_s_Bury d.1) e_s_Bury
def P_i_within : List (Bool × List Sh) := [(false, [.int .i64]), (false, [.int .i64]), (false, [.int .i64])]
def O_i_within (r : (Bool × Unit)) : List RV × List RV := ([rv (false, [.bool]) r], [])
def C_i_within : Fns := []
def F_i_within : Fun1 := funV P_i_within (fun d => (T_i_within d.1 d.2.1 d.2.2.1).val) O_i_within
def Q_i_within : Loops := fun _ _ => .fail
theorem e_i_within : ∀ d, pcall ⟨lookT tys, ctrOf C_i_within, kindOf C_i_within, 3, 4⟩ 0 Q_i_within Try.f73 .plain (mkA P_i_within d) = (T_i_within d.1 d.2.1 d.2.2.1).run fun r => some (O_i_within r) := fun d => by kernel_rfl
theorem fn_i_within : Fn Try.prog 73 .plain F_i_within := fn_of (cfgOk_of mixed tys_ok (show FnsOk Try.prog C_i_within from trivial)) Try.func73 (by kernel_rfl) (by kernel_rfl) (fun cx b hp hb => all_of (by kernel_rfl : loopsOf (Try.f73.body.getD .skip) = []) trivial b hb) (R := (Bool × Unit)) (T := fun (d : aden P_i_within) => T_i_within d.1 d.2.1 d.2.2.1) e_i_within
def P_i_isNonce : List (Bool × List Sh) := [(false, [.sl 5 [.int .u8]])]
def O_i_isNonce (r : (Bool × Unit)) : List RV × List RV := ([rv (false, [.bool]) r], [])
def C_i_isNonce : Fns := []
def F_i_isNonce : Fun1 := funV P_i_isNonce (fun d => (T_i_isNonce d.1).val) O_i_isNonce
def Q_i_isNonce : Loops := fun _ _ => .fail
theorem e_i_isNonce : ∀ d, pcall ⟨lookT tys, ctrOf C_i_isNonce, kindOf C_i_isNonce, 3, 4⟩ 0 Q_i_isNonce Try.f143 .plain (mkA P_i_isNonce d) = (T_i_isNonce d.1).run fun r => some (O_i_isNonce r) := fun d => by kernel_rfl
theorem fn_i_isNonce : Fn Try.prog 143 .plain F_i_isNonce := fn_of (cfgOk_of mixed tys_ok (show FnsOk Try.prog C_i_isNonce from trivial)) Try.func143 (by kernel_rfl) (by kernel_rfl) (fun cx b hp hb => all_of (by kernel_rfl : loopsOf (Try.f143.body.getD .skip) = []) trivial b hb) (R := (Bool × Unit)) (T := fun (d : aden P_i_isNonce) => T_i_isNonce d.1) e_i_isNonce
def P_bytes_Equal : List (Bool × List Sh) := [(false, [.sl 5 [.int .u8]]), (false, [.sl 5 [.int .u8]])]
def O_bytes_Equal (r : (Bool × Unit)) : List RV × List RV := ([rv (false, [.bool]) r], [])
def C_bytes_Equal : Fns := []
def F_bytes_Equal : Fun1 := funV P_bytes_Equal (fun d => (T_bytes_Equal d.1 d.2.1).val) O_bytes_Equal
def Q_bytes_Equal : Loops := fun _ _ => .fail
theorem e_bytes_Equal : ∀ d, pcall ⟨lookT tys, ctrOf C_bytes_Equal, kindOf C_bytes_Equal, 3, 4⟩ 0 Q_bytes_Equal Try.f146 .plain (mkA P_bytes_Equal d) = (T_bytes_Equal d.1 d.2.1).run fun r => some (O_bytes_Equal r) := fun d => by kernel_rfl
theorem fn_bytes_Equal : Fn Try.prog 146 .plain F_bytes_Equal := fn_of (cfgOk_of mixed tys_ok (show FnsOk Try.prog C_bytes_Equal from trivial)) Try.func146 (by kernel_rfl) (by kernel_rfl) (fun cx b hp hb => all_of (by kernel_rfl : loopsOf (Try.f146.body.getD .skip) = []) trivial b hb) (R := (Bool × Unit)) (T := fun (d : aden P_bytes_Equal) => T_bytes_Equal d.1 d.2.1) e_bytes_Equal
def P_i_sameInts : List (Bool × List Sh) := [(false, [.sl 3 [.int .i64]]), (false, [.sl 3 [.int .i64]])]
def O_i_sameInts (r : (Bool × Unit)) : List RV × List RV := ([rv (false, [.bool]) r], [])
def C_i_sameInts : Fns := []
def F_i_sameInts : Fun1 := funV P_i_sameInts (fun d => (T_i_sameInts d.1 d.2.1).val) O_i_sameInts
def K_i_sameInts_4 : Sk := ⟨[(1, .v false [(.sl 3 [.int .i64], .ro)]), (12, .v false [(.sl 3 [.int .i64], .ro)]), (13, .v false [(.int .i64, .nil)]), (14, .v false [(.int .i64, .nil)])], [], []⟩
def X_i_sameInts_4 : List (Ex × Sk) := [(.ret, ⟨[(4, .v false [(.bool, .nil)])], [], []⟩), ((.exit 0), ⟨[], [], []⟩)]
def Q_i_sameInts : Loops := fun i st => cond (Nat.beq i 4) (lam K_i_sameInts_4 5000000 X_i_sameInts_4 B_i_sameInts_4 st) <| .fail
theorem lp_i_sameInts_4 : ∀ d, bod ⟨lookT tys, ctrOf C_i_sameInts, kindOf C_i_sameInts, 3, 4⟩ 0 Try.f222.ntmps Q_i_sameInts (nthLoop Try.f222 0) K_i_sameInts_4 5000000 X_i_sameInts_4 d = B_i_sameInts_4 d := fun d => by kernel_rfl
theorem lo_i_sameInts_4 (cx : Cx) (hp : cx.pin.length ≤ 0) : LoopOk Try.prog cx Try.f222.ntmps Q_i_sameInts (nthLoop Try.f222 0) := loop_of (cfgOk_of mixed tys_ok (show FnsOk Try.prog C_i_sameInts from trivial)) hp (all_of (by kernel_rfl : loopsOf (nthLoop Try.f222 0) = []) trivial) (by kernel_rfl) lp_i_sameInts_4
theorem e_i_sameInts : ∀ d, pcall ⟨lookT tys, ctrOf C_i_sameInts, kindOf C_i_sameInts, 3, 4⟩ 0 Q_i_sameInts Try.f222 .plain (mkA P_i_sameInts d) = (T_i_sameInts d.1 d.2.1).run fun r => some (O_i_sameInts r) := fun d => by kernel_rfl
theorem fn_i_sameInts : Fn Try.prog 222 .plain F_i_sameInts := fn_of (cfgOk_of mixed tys_ok (show FnsOk Try.prog C_i_sameInts from trivial)) Try.func222 (by kernel_rfl) (by kernel_rfl) (fun cx b hp hb => all_of (by kernel_rfl : loopsOf (Try.f222.body.getD .skip) = [nthLoop Try.f222 0]) ⟨lo_i_sameInts_4 cx hp, trivial⟩ b hb) (R := (Bool × Unit)) (T := fun (d : aden P_i_sameInts) => T_i_sameInts d.1 d.2.1) e_i_sameInts
def P_i_sameEp : List (Bool × List Sh) := [(true, h_7), (true, h_7)]
def O_i_sameEp (r : (Bool × Unit)) : List RV × List RV := ([rv (false, [.bool]) r], [])
def C_i_sameEp : Fns := [(146, .plain, F_bytes_Equal), (222, .plain, F_i_sameInts)]
def F_i_sameEp : Fun1 := funV P_i_sameEp (fun d => (T_i_sameEp d.1 d.2.1).val) O_i_sameEp
def Q_i_sameEp : Loops := fun _ _ => .fail
theorem e_i_sameEp : ∀ d, pcall ⟨lookT tys, ctrOf C_i_sameEp, kindOf C_i_sameEp, 3, 4⟩ 0 Q_i_sameEp Try.f196 .plain (mkA P_i_sameEp d) = (T_i_sameEp d.1 d.2.1).run fun r => some (O_i_sameEp r) := fun d => by kernel_rfl
theorem fn_i_sameEp : Fn Try.prog 196 .plain F_i_sameEp := fn_of (cfgOk_of mixed tys_ok (show FnsOk Try.prog C_i_sameEp from ⟨fn_bytes_Equal, fn_i_sameInts, trivial⟩)) Try.func196 (by kernel_rfl) (by kernel_rfl) (fun cx b hp hb => all_of (by kernel_rfl : loopsOf (Try.f196.body.getD .skip) = []) trivial b hb) (R := (Bool × Unit)) (T := fun (d : aden P_i_sameEp) => T_i_sameEp d.1 d.2.1) e_i_sameEp
def P_i_isZeroChan : List (Bool × List Sh) := [(true, h_12)]
def O_i_isZeroChan (r : (Bool × Unit)) : List RV × List RV := ([rv (false, [.bool]) r], [])
def C_i_isZeroChan : Fns := [(196, .plain, F_i_sameEp)]
def F_i_isZeroChan : Fun1 := funV P_i_isZeroChan (fun d => (T_i_isZeroChan d.1).val) O_i_isZeroChan
def Q_i_isZeroChan : Loops := fun _ _ => .fail
theorem e_i_isZeroChan : ∀ d, pcall ⟨lookT tys, ctrOf C_i_isZeroChan, kindOf C_i_isZeroChan, 3, 4⟩ 0 Q_i_isZeroChan Try.f144 .plain (mkA P_i_isZeroChan d) = (T_i_isZeroChan d.1).run fun r => some (O_i_isZeroChan r) := fun d => by kernel_rfl
theorem fn_i_isZeroChan : Fn Try.prog 144 .plain F_i_isZeroChan := fn_of (cfgOk_of mixed tys_ok (show FnsOk Try.prog C_i_isZeroChan from ⟨fn_i_sameEp, trivial⟩)) Try.func144 (by kernel_rfl) (by kernel_rfl) (fun cx b hp hb => all_of (by kernel_rfl : loopsOf (Try.f144.body.getD .skip) = []) trivial b hb) (R := (Bool × Unit)) (T := fun (d : aden P_i_isZeroChan) => T_i_isZeroChan d.1) e_i_isZeroChan
def P_i_isRole : List (Bool × List Sh) := [(false, [.int .i64])]
def O_i_isRole (r : (Bool × Unit)) : List RV × List RV := ([rv (false, [.bool]) r], [])
def C_i_isRole : Fns := []
def F_i_isRole : Fun1 := funV P_i_isRole (fun d => (T_i_isRole d.1).val) O_i_isRole
def Q_i_isRole : Loops := fun _ _ => .fail
theorem e_i_isRole : ∀ d, pcall ⟨lookT tys, ctrOf C_i_isRole, kindOf C_i_isRole, 3, 4⟩ 0 Q_i_isRole Try.f197 .plain (mkA P_i_isRole d) = (T_i_isRole d.1).run fun r => some (O_i_isRole r) := fun d => by kernel_rfl
theorem fn_i_isRole : Fn Try.prog 197 .plain F_i_isRole := fn_of (cfgOk_of mixed tys_ok (show FnsOk Try.prog C_i_isRole from trivial)) Try.func197 (by kernel_rfl) (by kernel_rfl) (fun cx b hp hb => all_of (by kernel_rfl : loopsOf (Try.f197.body.getD .skip) = []) trivial b hb) (R := (Bool × Unit)) (T := fun (d : aden P_i_isRole) => T_i_isRole d.1) e_i_isRole
def P_i_areWords : List (Bool × List Sh) := [(false, [.sl 3 [.int .i64]]), (false, [.int .i64])]
def O_i_areWords (r : (Bool × Unit)) : List RV × List RV := ([rv (false, [.bool]) r], [])
def C_i_areWords : Fns := [(73, .plain, F_i_within)]
def F_i_areWords : Fun1 := funV P_i_areWords (fun d => (T_i_areWords d.1 d.2.1).val) O_i_areWords
def K_i_areWords_2 : Sk := ⟨[(0, .v false [(.sl 3 [.int .i64], .ro)]), (1, .v false [(.int .i64, .nil)]), (7, .v false [(.sl 3 [.int .i64], .ro)]), (8, .v false [(.int .i64, .nil)]), (9, .v false [(.int .i64, .nil)])], [], []⟩
def X_i_areWords_2 : List (Ex × Sk) := [(.ret, ⟨[(4, .v false [(.bool, .nil)])], [], []⟩), ((.exit 0), ⟨[(0, .v false [(.sl 3 [.int .i64], .ro)]), (1, .v false [(.int .i64, .nil)])], [], []⟩)]
def Q_i_areWords : Loops := fun i st => cond (Nat.beq i 2) (lam K_i_areWords_2 3000000 X_i_areWords_2 B_i_areWords_2 st) <| .fail
theorem lp_i_areWords_2 : ∀ d, bod ⟨lookT tys, ctrOf C_i_areWords, kindOf C_i_areWords, 3, 4⟩ 0 Try.f240.ntmps Q_i_areWords (nthLoop Try.f240 0) K_i_areWords_2 3000000 X_i_areWords_2 d = B_i_areWords_2 d := fun d => by kernel_rfl
theorem lo_i_areWords_2 (cx : Cx) (hp : cx.pin.length ≤ 0) : LoopOk Try.prog cx Try.f240.ntmps Q_i_areWords (nthLoop Try.f240 0) := loop_of (cfgOk_of mixed tys_ok (show FnsOk Try.prog C_i_areWords from ⟨fn_i_within, trivial⟩)) hp (all_of (by kernel_rfl : loopsOf (nthLoop Try.f240 0) = []) trivial) (by kernel_rfl) lp_i_areWords_2
theorem e_i_areWords : ∀ d, pcall ⟨lookT tys, ctrOf C_i_areWords, kindOf C_i_areWords, 3, 4⟩ 0 Q_i_areWords Try.f240 .plain (mkA P_i_areWords d) = (T_i_areWords d.1 d.2.1).run fun r => some (O_i_areWords r) := fun d => by kernel_rfl
theorem fn_i_areWords : Fn Try.prog 240 .plain F_i_areWords := fn_of (cfgOk_of mixed tys_ok (show FnsOk Try.prog C_i_areWords from ⟨fn_i_within, trivial⟩)) Try.func240 (by kernel_rfl) (by kernel_rfl) (fun cx b hp hb => all_of (by kernel_rfl : loopsOf (Try.f240.body.getD .skip) = [nthLoop Try.f240 0]) ⟨lo_i_areWords_2 cx hp, trivial⟩ b hb) (R := (Bool × Unit)) (T := fun (d : aden P_i_areWords) => T_i_areWords d.1 d.2.1) e_i_areWords
def P_i_hasBit : List (Bool × List Sh) := [(true, [.int .i64, .sl 3 [.int .i64]]), (false, [.int .i64])]
def O_i_hasBit (r : (Bool × Unit)) : List RV × List RV := ([rv (false, [.bool]) r], [])
def C_i_hasBit : Fns := []
def F_i_hasBit : Fun1 := funV P_i_hasBit (fun d => (T_i_hasBit d.1 d.2.1).val) O_i_hasBit
def Q_i_hasBit : Loops := fun _ _ => .fail
theorem e_i_hasBit : ∀ d, pcall ⟨lookT tys, ctrOf C_i_hasBit, kindOf C_i_hasBit, 3, 4⟩ 0 Q_i_hasBit Try.f241 .plain (mkA P_i_hasBit d) = (T_i_hasBit d.1 d.2.1).run fun r => some (O_i_hasBit r) := fun d => by kernel_rfl
theorem fn_i_hasBit : Fn Try.prog 241 .plain F_i_hasBit := fn_of (cfgOk_of mixed tys_ok (show FnsOk Try.prog C_i_hasBit from trivial)) Try.func241 (by kernel_rfl) (by kernel_rfl) (fun cx b hp hb => all_of (by kernel_rfl : loopsOf (Try.f241.body.getD .skip) = []) trivial b hb) (R := (Bool × Unit)) (T := fun (d : aden P_i_hasBit) => T_i_hasBit d.1 d.2.1) e_i_hasBit
def P_i_WinOk : List (Bool × List Sh) := [(true, [.int .i64, .sl 3 [.int .i64]])]
def O_i_WinOk (r : (Bool × Unit)) : List RV × List RV := ([rv (false, [.bool]) r], [])
def C_i_WinOk : Fns := [(73, .plain, F_i_within), (240, .plain, F_i_areWords), (241, .plain, F_i_hasBit)]
def F_i_WinOk : Fun1 := funV P_i_WinOk (fun d => (T_i_WinOk d.1).val) O_i_WinOk
def K_i_WinOk_4 : Sk := ⟨[(1, .box 1 0), (3, .v false [(.int .i64, .nil)])], [(1, [(.int .i64, .nil), (.sl 3 [.int .i64], .ro)])], []⟩
def X_i_WinOk_4 : List (Ex × Sk) := [(.ret, ⟨[(2, .v false [(.bool, .nil)])], [], []⟩), ((.exit 0), ⟨[(1, .box 1 0)], [(1, [(.int .i64, .nil), (.sl 3 [.int .i64], .ro)])], []⟩)]
def Q_i_WinOk : Loops := fun i st => cond (Nat.beq i 4) (lam K_i_WinOk_4 5000000 X_i_WinOk_4 B_i_WinOk_4 st) <| .fail
theorem lp_i_WinOk_4 : ∀ d, bod ⟨lookT tys, ctrOf C_i_WinOk, kindOf C_i_WinOk, 3, 4⟩ 0 Try.f223.ntmps Q_i_WinOk (nthLoop Try.f223 0) K_i_WinOk_4 5000000 X_i_WinOk_4 d = B_i_WinOk_4 d := fun d => by kernel_rfl
theorem lo_i_WinOk_4 (cx : Cx) (hp : cx.pin.length ≤ 0) : LoopOk Try.prog cx Try.f223.ntmps Q_i_WinOk (nthLoop Try.f223 0) := loop_of (cfgOk_of mixed tys_ok (show FnsOk Try.prog C_i_WinOk from ⟨fn_i_within, fn_i_areWords, fn_i_hasBit, trivial⟩)) hp (all_of (by kernel_rfl : loopsOf (nthLoop Try.f223 0) = []) trivial) (by kernel_rfl) lp_i_WinOk_4
theorem e_i_WinOk : ∀ d, pcall ⟨lookT tys, ctrOf C_i_WinOk, kindOf C_i_WinOk, 3, 4⟩ 0 Q_i_WinOk Try.f223 .plain (mkA P_i_WinOk d) = (T_i_WinOk d.1).run fun r => some (O_i_WinOk r) := fun d => by kernel_rfl
theorem fn_i_WinOk : Fn Try.prog 223 .plain F_i_WinOk := fn_of (cfgOk_of mixed tys_ok (show FnsOk Try.prog C_i_WinOk from ⟨fn_i_within, fn_i_areWords, fn_i_hasBit, trivial⟩)) Try.func223 (by kernel_rfl) (by kernel_rfl) (fun cx b hp hb => all_of (by kernel_rfl : loopsOf (Try.f223.body.getD .skip) = [nthLoop Try.f223 0]) ⟨lo_i_WinOk_4 cx hp, trivial⟩ b hb) (R := (Bool × Unit)) (T := fun (d : aden P_i_WinOk) => T_i_WinOk d.1) e_i_WinOk
def P_i_EpOk : List (Bool × List Sh) := [(true, h_7)]
def O_i_EpOk (r : (Bool × Unit)) : List RV × List RV := ([rv (false, [.bool]) r], [])
def C_i_EpOk : Fns := [(73, .plain, F_i_within), (223, .plain, F_i_WinOk)]
def F_i_EpOk : Fun1 := funV P_i_EpOk (fun d => (T_i_EpOk d.1).val) O_i_EpOk
def Q_i_EpOk : Loops := fun _ _ => .fail
theorem e_i_EpOk : ∀ d, pcall ⟨lookT tys, ctrOf C_i_EpOk, kindOf C_i_EpOk, 3, 4⟩ 0 Q_i_EpOk Try.f198 .plain (mkA P_i_EpOk d) = (T_i_EpOk d.1).run fun r => some (O_i_EpOk r) := fun d => by kernel_rfl
theorem fn_i_EpOk : Fn Try.prog 198 .plain F_i_EpOk := fn_of (cfgOk_of mixed tys_ok (show FnsOk Try.prog C_i_EpOk from ⟨fn_i_within, fn_i_WinOk, trivial⟩)) Try.func198 (by kernel_rfl) (by kernel_rfl) (fun cx b hp hb => all_of (by kernel_rfl : loopsOf (Try.f198.body.getD .skip) = []) trivial b hb) (R := (Bool × Unit)) (T := fun (d : aden P_i_EpOk) => T_i_EpOk d.1) e_i_EpOk
def P_i_oldOk : List (Bool × List Sh) := [(true, h_12)]
def O_i_oldOk (r : (Bool × Unit)) : List RV × List RV := ([rv (false, [.bool]) r], [])
def C_i_oldOk : Fns := [(196, .plain, F_i_sameEp), (198, .plain, F_i_EpOk), (73, .plain, F_i_within)]
def F_i_oldOk : Fun1 := funV P_i_oldOk (fun d => (T_i_oldOk d.1).val) O_i_oldOk
def Q_i_oldOk : Loops := fun _ _ => .fail
theorem e_i_oldOk : ∀ d, pcall ⟨lookT tys, ctrOf C_i_oldOk, kindOf C_i_oldOk, 3, 4⟩ 0 Q_i_oldOk Try.f199 .plain (mkA P_i_oldOk d) = (T_i_oldOk d.1).run fun r => some (O_i_oldOk r) := fun d => by kernel_rfl
theorem fn_i_oldOk : Fn Try.prog 199 .plain F_i_oldOk := fn_of (cfgOk_of mixed tys_ok (show FnsOk Try.prog C_i_oldOk from ⟨fn_i_sameEp, fn_i_EpOk, fn_i_within, trivial⟩)) Try.func199 (by kernel_rfl) (by kernel_rfl) (fun cx b hp hb => all_of (by kernel_rfl : loopsOf (Try.f199.body.getD .skip) = []) trivial b hb) (R := (Bool × Unit)) (T := fun (d : aden P_i_oldOk) => T_i_oldOk d.1) e_i_oldOk
def P_i_ChanOk : List (Bool × List Sh) := [(true, h_12)]
def O_i_ChanOk (r : (Bool × Unit)) : List RV × List RV := ([rv (false, [.bool]) r], [])
def C_i_ChanOk : Fns := [(197, .plain, F_i_isRole), (143, .plain, F_i_isNonce), (198, .plain, F_i_EpOk), (199, .plain, F_i_oldOk)]
def F_i_ChanOk : Fun1 := funV P_i_ChanOk (fun d => (T_i_ChanOk d.1).val) O_i_ChanOk
def Q_i_ChanOk : Loops := fun _ _ => .fail
theorem e_i_ChanOk : ∀ d, pcall ⟨lookT tys, ctrOf C_i_ChanOk, kindOf C_i_ChanOk, 3, 4⟩ 0 Q_i_ChanOk Try.f145 .plain (mkA P_i_ChanOk d) = (T_i_ChanOk d.1).run fun r => some (O_i_ChanOk r) := fun d => by kernel_rfl
theorem fn_i_ChanOk : Fn Try.prog 145 .plain F_i_ChanOk := fn_of (cfgOk_of mixed tys_ok (show FnsOk Try.prog C_i_ChanOk from ⟨fn_i_isRole, fn_i_isNonce, fn_i_EpOk, fn_i_oldOk, trivial⟩)) Try.func145 (by kernel_rfl) (by kernel_rfl) (fun cx b hp hb => all_of (by kernel_rfl : loopsOf (Try.f145.body.getD .skip) = []) trivial b hb) (R := (Bool × Unit)) (T := fun (d : aden P_i_ChanOk) => T_i_ChanOk d.1) e_i_ChanOk
def P_i_AddrOk : List (Bool × List Sh) := [(true, [.int .i64, .int .i64])]
def O_i_AddrOk (r : (Bool × Unit)) : List RV × List RV := ([rv (false, [.bool]) r], [])
def C_i_AddrOk : Fns := [(73, .plain, F_i_within)]
def F_i_AddrOk : Fun1 := funV P_i_AddrOk (fun d => (T_i_AddrOk d.1).val) O_i_AddrOk
def Q_i_AddrOk : Loops := fun _ _ => .fail
theorem e_i_AddrOk : ∀ d, pcall ⟨lookT tys, ctrOf C_i_AddrOk, kindOf C_i_AddrOk, 3, 4⟩ 0 Q_i_AddrOk Try.f115 .plain (mkA P_i_AddrOk d) = (T_i_AddrOk d.1).run fun r => some (O_i_AddrOk r) := fun d => by kernel_rfl
theorem fn_i_AddrOk : Fn Try.prog 115 .plain F_i_AddrOk := fn_of (cfgOk_of mixed tys_ok (show FnsOk Try.prog C_i_AddrOk from ⟨fn_i_within, trivial⟩)) Try.func115 (by kernel_rfl) (by kernel_rfl) (fun cx b hp hb => all_of (by kernel_rfl : loopsOf (Try.f115.body.getD .skip) = []) trivial b hb) (R := (Bool × Unit)) (T := fun (d : aden P_i_AddrOk) => T_i_AddrOk d.1) e_i_AddrOk
def P_i_PathsOk : List (Bool × List Sh) := [(true, h_9)]
def O_i_PathsOk (r : (Bool × Unit)) : List RV × List RV := ([rv (false, [.bool]) r], [])
def C_i_PathsOk : Fns := [(115, .plain, F_i_AddrOk), (143, .plain, F_i_isNonce), (73, .plain, F_i_within)]
def F_i_PathsOk : Fun1 := funV P_i_PathsOk (fun d => (T_i_PathsOk d.1).val) O_i_PathsOk
def K_i_PathsOk_4 : Sk := ⟨[(1, .box 1 0), (18, .v false [(.sl 201 h_5, .ro)]), (19, .v false [(.int .i64, .nil)]), (20, .v false [(.int .i64, .nil)])], [(1, [(.int .i64, .nil), (.int .i64, .nil), (.sl 201 h_5, .ro)])], []⟩
def X_i_PathsOk_4 : List (Ex × Sk) := [(.ret, ⟨[(2, .v false [(.bool, .nil)])], [], []⟩), ((.exit 0), ⟨[], [], []⟩)]
def K_i_PathsOk_9 : Sk := ⟨[(1, .box 1 0), (4, .box 4 0), (18, .v false [(.sl 201 h_5, .ro)]), (19, .v false [(.int .i64, .nil)]), (20, .v false [(.int .i64, .nil)]), (51, .v false [(.sl 201 h_5, .ro)]), (52, .v false [(.int .i64, .nil)]), (53, .v false [(.int .i64, .nil)])], [(1, [(.int .i64, .nil), (.int .i64, .nil), (.sl 201 h_5, .ro)]), (4, [(.int .i64, .nil), (.int .i64, .nil), (.sl 5 [.int .u8], .ro), (.int .i64, .nil)])], []⟩
def X_i_PathsOk_9 : List (Ex × Sk) := [(.ret, ⟨[(2, .v false [(.bool, .nil)])], [], []⟩), ((.exit 2), ⟨[(1, .box 1 0), (18, .v false [(.sl 201 h_5, .ro)]), (19, .v false [(.int .i64, .nil)]), (20, .v false [(.int .i64, .nil)])], [(1, [(.int .i64, .nil), (.int .i64, .nil), (.sl 201 h_5, .ro)])], []⟩)]
def Q_i_PathsOk : Loops := fun i st => cond (Nat.beq i 9) (lam K_i_PathsOk_9 10000000 X_i_PathsOk_9 B_i_PathsOk_9 st) <| cond (Nat.beq i 4) (lam K_i_PathsOk_4 5000000 X_i_PathsOk_4 B_i_PathsOk_4 st) <| .fail
theorem lp_i_PathsOk_9 : ∀ d, bod ⟨lookT tys, ctrOf C_i_PathsOk, kindOf C_i_PathsOk, 3, 4⟩ 0 Try.f147.ntmps Q_i_PathsOk (nthLoop Try.f147 1) K_i_PathsOk_9 10000000 X_i_PathsOk_9 d = B_i_PathsOk_9 d := fun d => by kernel_rfl
theorem lo_i_PathsOk_9 (cx : Cx) (hp : cx.pin.length ≤ 0) : LoopOk Try.prog cx Try.f147.ntmps Q_i_PathsOk (nthLoop Try.f147 1) := loop_of (cfgOk_of mixed tys_ok (show FnsOk Try.prog C_i_PathsOk from ⟨fn_i_AddrOk, fn_i_isNonce, fn_i_within, trivial⟩)) hp (all_of (by kernel_rfl : loopsOf (nthLoop Try.f147 1) = []) trivial) (by kernel_rfl) lp_i_PathsOk_9
theorem lp_i_PathsOk_4 : ∀ d, bod ⟨lookT tys, ctrOf C_i_PathsOk, kindOf C_i_PathsOk, 3, 4⟩ 0 Try.f147.ntmps Q_i_PathsOk (nthLoop Try.f147 0) K_i_PathsOk_4 5000000 X_i_PathsOk_4 d = B_i_PathsOk_4 d := fun d => by kernel_rfl
theorem lo_i_PathsOk_4 (cx : Cx) (hp : cx.pin.length ≤ 0) : LoopOk Try.prog cx Try.f147.ntmps Q_i_PathsOk (nthLoop Try.f147 0) := loop_of (cfgOk_of mixed tys_ok (show FnsOk Try.prog C_i_PathsOk from ⟨fn_i_AddrOk, fn_i_isNonce, fn_i_within, trivial⟩)) hp (all_of (by kernel_rfl : loopsOf (nthLoop Try.f147 0) = [nthLoop Try.f147 1]) ⟨lo_i_PathsOk_9 cx hp, trivial⟩) (by kernel_rfl) lp_i_PathsOk_4
theorem e_i_PathsOk : ∀ d, pcall ⟨lookT tys, ctrOf C_i_PathsOk, kindOf C_i_PathsOk, 3, 4⟩ 0 Q_i_PathsOk Try.f147 .plain (mkA P_i_PathsOk d) = (T_i_PathsOk d.1).run fun r => some (O_i_PathsOk r) := fun d => by kernel_rfl
theorem fn_i_PathsOk : Fn Try.prog 147 .plain F_i_PathsOk := fn_of (cfgOk_of mixed tys_ok (show FnsOk Try.prog C_i_PathsOk from ⟨fn_i_AddrOk, fn_i_isNonce, fn_i_within, trivial⟩)) Try.func147 (by kernel_rfl) (by kernel_rfl) (fun cx b hp hb => all_of (by kernel_rfl : loopsOf (Try.f147.body.getD .skip) = [nthLoop Try.f147 0]) ⟨lo_i_PathsOk_4 cx hp, trivial⟩ b hb) (R := (Bool × Unit)) (T := fun (d : aden P_i_PathsOk) => T_i_PathsOk d.1) e_i_PathsOk
def P_i_SessOk : List (Bool × List Sh) := [(true, h_14)]
def O_i_SessOk (r : (Bool × Unit)) : List RV × List RV := ([rv (false, [.bool]) r], [])
def C_i_SessOk : Fns := [(73, .plain, F_i_within), (143, .plain, F_i_isNonce), (144, .plain, F_i_isZeroChan), (145, .plain, F_i_ChanOk), (146, .plain, F_bytes_Equal), (147, .plain, F_i_PathsOk)]
def F_i_SessOk : Fun1 := funV P_i_SessOk (fun d => (T_i_SessOk d.1).val) O_i_SessOk
def Q_i_SessOk : Loops := fun _ _ => .fail
theorem e_i_SessOk : ∀ d, pcall ⟨lookT tys, ctrOf C_i_SessOk, kindOf C_i_SessOk, 3, 4⟩ 0 Q_i_SessOk Try.f61 .plain (mkA P_i_SessOk d) = (T_i_SessOk d.1).run fun r => some (O_i_SessOk r) := fun d => by kernel_rfl
theorem fn_i_SessOk : Fn Try.prog 61 .plain F_i_SessOk := fn_of (cfgOk_of mixed tys_ok (show FnsOk Try.prog C_i_SessOk from ⟨fn_i_within, fn_i_isNonce, fn_i_isZeroChan, fn_i_ChanOk, fn_bytes_Equal, fn_i_PathsOk, trivial⟩)) Try.func61 (by kernel_rfl) (by kernel_rfl) (fun cx b hp hb => all_of (by kernel_rfl : loopsOf (Try.f61.body.getD .skip) = []) trivial b hb) (R := (Bool × Unit)) (T := fun (d : aden P_i_SessOk) => T_i_SessOk d.1) e_i_SessOk
def P_i_clone : List (Bool × List Sh) := [(false, [.sl 5 [.int .u8]])]
def O_i_clone (r : (YBs)) : List RV × List RV := ([rv (false, [.sl 5 [.int .u8]]) r], [])
def C_i_clone : Fns := []
def F_i_clone : Fun1 := funV P_i_clone (fun d => (T_i_clone d.1).val) O_i_clone
def Q_i_clone : Loops := fun _ _ => .fail
theorem e_i_clone : ∀ d, pcall ⟨lookT tys, ctrOf C_i_clone, kindOf C_i_clone, 3, 4⟩ 0 Q_i_clone Try.f63 .plain (mkA P_i_clone d) = (T_i_clone d.1).run fun r => some (O_i_clone r) := fun d => by kernel_rfl
theorem fn_i_clone : Fn Try.prog 63 .plain F_i_clone := fn_of (cfgOk_of mixed tys_ok (show FnsOk Try.prog C_i_clone from trivial)) Try.func63 (by kernel_rfl) (by kernel_rfl) (fun cx b hp hb => all_of (by kernel_rfl : loopsOf (Try.f63.body.getD .skip) = []) trivial b hb) (R := (YBs)) (T := fun (d : aden P_i_clone) => T_i_clone d.1) e_i_clone
def P_i_copyWin : List (Bool × List Sh) := [(true, [.int .i64, .sl 3 [.int .i64]])]
def O_i_copyWin (r : (YWin)) : List RV × List RV := ([rv (true, [.int .i64, .sl 3 [.int .i64]]) r], [])
def C_i_copyWin : Fns := []
def F_i_copyWin : Fun1 := funV P_i_copyWin (fun d => (T_i_copyWin d.1).val) O_i_copyWin
def Q_i_copyWin : Loops := fun _ _ => .fail
theorem e_i_copyWin : ∀ d, pcall ⟨lookT tys, ctrOf C_i_copyWin, kindOf C_i_copyWin, 3, 4⟩ 0 Q_i_copyWin Try.f224 .plain (mkA P_i_copyWin d) = (T_i_copyWin d.1).run fun r => some (O_i_copyWin r) := fun d => by kernel_rfl
theorem fn_i_copyWin : Fn Try.prog 224 .plain F_i_copyWin := fn_of (cfgOk_of mixed tys_ok (show FnsOk Try.prog C_i_copyWin from trivial)) Try.func224 (by kernel_rfl) (by kernel_rfl) (fun cx b hp hb => all_of (by kernel_rfl : loopsOf (Try.f224.body.getD .skip) = []) trivial b hb) (R := (YWin)) (T := fun (d : aden P_i_copyWin) => T_i_copyWin d.1) e_i_copyWin
def P_i_copyEp : List (Bool × List Sh) := [(true, h_7)]
def O_i_copyEp (r : (YEp)) : List RV × List RV := ([rv (true, h_7) r], [])
def C_i_copyEp : Fns := [(63, .plain, F_i_clone), (224, .plain, F_i_copyWin)]
def F_i_copyEp : Fun1 := funV P_i_copyEp (fun d => (T_i_copyEp d.1).val) O_i_copyEp
def Q_i_copyEp : Loops := fun _ _ => .fail
theorem e_i_copyEp : ∀ d, pcall ⟨lookT tys, ctrOf C_i_copyEp, kindOf C_i_copyEp, 3, 4⟩ 0 Q_i_copyEp Try.f200 .plain (mkA P_i_copyEp d) = (T_i_copyEp d.1).run fun r => some (O_i_copyEp r) := fun d => by kernel_rfl
theorem fn_i_copyEp : Fn Try.prog 200 .plain F_i_copyEp := fn_of (cfgOk_of mixed tys_ok (show FnsOk Try.prog C_i_copyEp from ⟨fn_i_clone, fn_i_copyWin, trivial⟩)) Try.func200 (by kernel_rfl) (by kernel_rfl) (fun cx b hp hb => all_of (by kernel_rfl : loopsOf (Try.f200.body.getD .skip) = []) trivial b hb) (R := (YEp)) (T := fun (d : aden P_i_copyEp) => T_i_copyEp d.1) e_i_copyEp
def P_i_copyChan : List (Bool × List Sh) := [(true, h_12)]
def O_i_copyChan (r : (YChan)) : List RV × List RV := ([rv (true, h_12) r], [])
def C_i_copyChan : Fns := [(63, .plain, F_i_clone), (200, .plain, F_i_copyEp)]
def F_i_copyChan : Fun1 := funV P_i_copyChan (fun d => (T_i_copyChan d.1).val) O_i_copyChan
def Q_i_copyChan : Loops := fun _ _ => .fail
theorem e_i_copyChan : ∀ d, pcall ⟨lookT tys, ctrOf C_i_copyChan, kindOf C_i_copyChan, 3, 4⟩ 0 Q_i_copyChan Try.f148 .plain (mkA P_i_copyChan d) = (T_i_copyChan d.1).run fun r => some (O_i_copyChan r) := fun d => by kernel_rfl
theorem fn_i_copyChan : Fn Try.prog 148 .plain F_i_copyChan := fn_of (cfgOk_of mixed tys_ok (show FnsOk Try.prog C_i_copyChan from ⟨fn_i_clone, fn_i_copyEp, trivial⟩)) Try.func148 (by kernel_rfl) (by kernel_rfl) (fun cx b hp hb => all_of (by kernel_rfl : loopsOf (Try.f148.body.getD .skip) = []) trivial b hb) (R := (YChan)) (T := fun (d : aden P_i_copyChan) => T_i_copyChan d.1) e_i_copyChan
def P_i_copyPaths : List (Bool × List Sh) := [(true, h_9)]
def O_i_copyPaths (r : (YPaths)) : List RV × List RV := ([rv (true, h_9) r], [])
def C_i_copyPaths : Fns := [(63, .plain, F_i_clone)]
def F_i_copyPaths : Fun1 := funV P_i_copyPaths (fun d => (T_i_copyPaths d.1).val) O_i_copyPaths
def K_i_copyPaths_3 : Sk := ⟨[(2, .box 2 0), (3, .box 3 0), (10, .v false [(.sl 201 h_5, .ro)]), (11, .v false [(.int .i64, .nil)]), (12, .v false [(.int .i64, .nil)])], [(2, [(.int .i64, .nil), (.int .i64, .nil), (.sl 201 h_5, (.own 4000000))]), (3, [(.int .i64, .nil), (.int .i64, .nil), (.sl 201 h_5, (.own 4000001))])], [4000000, 4000001]⟩
def X_i_copyPaths_3 : List (Ex × Sk) := [((.exit 0), ⟨[(2, .box 2 0), (3, .box 3 0)], [(2, [(.int .i64, .nil), (.int .i64, .nil), (.sl 201 h_5, (.own 4000000))]), (3, [(.int .i64, .nil), (.int .i64, .nil), (.sl 201 h_5, (.own 4000001))])], [4000000, 4000001]⟩)]
def Q_i_copyPaths : Loops := fun i st => cond (Nat.beq i 3) (lam K_i_copyPaths_3 4000000 X_i_copyPaths_3 B_i_copyPaths_3 st) <| .fail
theorem lp_i_copyPaths_3 : ∀ d, bod ⟨lookT tys, ctrOf C_i_copyPaths, kindOf C_i_copyPaths, 3, 4⟩ 0 Try.f149.ntmps Q_i_copyPaths (nthLoop Try.f149 0) K_i_copyPaths_3 4000000 X_i_copyPaths_3 d = B_i_copyPaths_3 d := fun d => by kernel_rfl
theorem lo_i_copyPaths_3 (cx : Cx) (hp : cx.pin.length ≤ 0) : LoopOk Try.prog cx Try.f149.ntmps Q_i_copyPaths (nthLoop Try.f149 0) := loop_of (cfgOk_of mixed tys_ok (show FnsOk Try.prog C_i_copyPaths from ⟨fn_i_clone, trivial⟩)) hp (all_of (by kernel_rfl : loopsOf (nthLoop Try.f149 0) = []) trivial) (by kernel_rfl) lp_i_copyPaths_3
theorem e_i_copyPaths : ∀ d, pcall ⟨lookT tys, ctrOf C_i_copyPaths, kindOf C_i_copyPaths, 3, 4⟩ 0 Q_i_copyPaths Try.f149 .plain (mkA P_i_copyPaths d) = (T_i_copyPaths d.1).run fun r => some (O_i_copyPaths r) := fun d => by kernel_rfl
theorem fn_i_copyPaths : Fn Try.prog 149 .plain F_i_copyPaths := fn_of (cfgOk_of mixed tys_ok (show FnsOk Try.prog C_i_copyPaths from ⟨fn_i_clone, trivial⟩)) Try.func149 (by kernel_rfl) (by kernel_rfl) (fun cx b hp hb => all_of (by kernel_rfl : loopsOf (Try.f149.body.getD .skip) = [nthLoop Try.f149 0]) ⟨lo_i_copyPaths_3 cx hp, trivial⟩ b hb) (R := (YPaths)) (T := fun (d : aden P_i_copyPaths) => T_i_copyPaths d.1) e_i_copyPaths
def P_i_copySess : List (Bool × List Sh) := [(true, h_14)]
def O_i_copySess (r : (YSess)) : List RV × List RV := ([rv (true, h_14) r], [])
def C_i_copySess : Fns := [(63, .plain, F_i_clone), (148, .plain, F_i_copyChan), (149, .plain, F_i_copyPaths)]
def F_i_copySess : Fun1 := funV P_i_copySess (fun d => (T_i_copySess d.1).val) O_i_copySess
def Q_i_copySess : Loops := fun _ _ => .fail
theorem e_i_copySess : ∀ d, pcall ⟨lookT tys, ctrOf C_i_copySess, kindOf C_i_copySess, 3, 4⟩ 0 Q_i_copySess Try.f62 .plain (mkA P_i_copySess d) = (T_i_copySess d.1).run fun r => some (O_i_copySess r) := fun d => by kernel_rfl
theorem fn_i_copySess : Fn Try.prog 62 .plain F_i_copySess := fn_of (cfgOk_of mixed tys_ok (show FnsOk Try.prog C_i_copySess from ⟨fn_i_clone, fn_i_copyChan, fn_i_copyPaths, trivial⟩)) Try.func62 (by kernel_rfl) (by kernel_rfl) (fun cx b hp hb => all_of (by kernel_rfl : loopsOf (Try.f62.body.getD .skip) = []) trivial b hb) (R := (YSess)) (T := fun (d : aden P_i_copySess) => T_i_copySess d.1) e_i_copySess
def P_i_Bury : List (Bool × List Sh) := [(true, h_14)]
def O_i_Bury (r : (YSess)) : List RV × List RV := ([rv (true, h_14) r], [])
def C_i_Bury : Fns := [(61, .plain, F_i_SessOk), (62, .plain, F_i_copySess), (63, .plain, F_i_clone)]
def F_i_Bury : Fun1 := funV P_i_Bury (fun d => (T_i_Bury d.1).val) O_i_Bury
def Q_i_Bury : Loops := fun _ _ => .fail
theorem e_i_Bury : ∀ d, pcall ⟨lookT tys, ctrOf C_i_Bury, kindOf C_i_Bury, 3, 4⟩ 0 Q_i_Bury Try.f12 .plain (mkA P_i_Bury d) = (T_i_Bury d.1).run fun r => some (O_i_Bury r) := fun d => by kernel_rfl
theorem fn_i_Bury : Fn Try.prog 12 .plain F_i_Bury := fn_of (cfgOk_of mixed tys_ok (show FnsOk Try.prog C_i_Bury from ⟨fn_i_SessOk, fn_i_copySess, fn_i_clone, trivial⟩)) Try.func12 (by kernel_rfl) (by kernel_rfl) (fun cx b hp hb => all_of (by kernel_rfl : loopsOf (Try.f12.body.getD .skip) = []) trivial b hb) (R := (YSess)) (T := fun (d : aden P_i_Bury) => T_i_Bury d.1) e_i_Bury
def P_l_eqByteS : List (Bool × List Sh) := [(false, [.sl 5 [.int .u8]]), (false, [.sl 5 [.int .u8]])]
def O_l_eqByteS (r : (Bool × Unit)) : List RV × List RV := ([rv (false, [.bool]) r], [])
def C_l_eqByteS : Fns := []
def F_l_eqByteS : Fun1 := funV P_l_eqByteS (fun d => (T_l_eqByteS d.1 d.2.1).val) O_l_eqByteS
def K_l_eqByteS_4 : Sk := ⟨[(0, .v false [(.sl 5 [.int .u8], .ro)]), (1, .v false [(.sl 5 [.int .u8], .ro)]), (5, .v false [(.int .i64, .nil)])], [], []⟩
def X_l_eqByteS_4 : List (Ex × Sk) := [(.ret, ⟨[(4, .v false [(.bool, .nil)])], [], []⟩), ((.exit 0), ⟨[], [], []⟩)]
def Q_l_eqByteS : Loops := fun i st => cond (Nat.beq i 4) (lam K_l_eqByteS_4 5000000 X_l_eqByteS_4 B_l_eqByteS_4 st) <| .fail
theorem lp_l_eqByteS_4 : ∀ d, bod ⟨lookT tys, ctrOf C_l_eqByteS, kindOf C_l_eqByteS, 3, 4⟩ 0 Try.f44.ntmps Q_l_eqByteS (nthLoop Try.f44 0) K_l_eqByteS_4 5000000 X_l_eqByteS_4 d = B_l_eqByteS_4 d := fun d => by kernel_rfl
theorem lo_l_eqByteS_4 (cx : Cx) (hp : cx.pin.length ≤ 0) : LoopOk Try.prog cx Try.f44.ntmps Q_l_eqByteS (nthLoop Try.f44 0) := loop_of (cfgOk_of mixed tys_ok (show FnsOk Try.prog C_l_eqByteS from trivial)) hp (all_of (by kernel_rfl : loopsOf (nthLoop Try.f44 0) = []) trivial) (by kernel_rfl) lp_l_eqByteS_4
theorem e_l_eqByteS : ∀ d, pcall ⟨lookT tys, ctrOf C_l_eqByteS, kindOf C_l_eqByteS, 3, 4⟩ 0 Q_l_eqByteS Try.f44 .plain (mkA P_l_eqByteS d) = (T_l_eqByteS d.1 d.2.1).run fun r => some (O_l_eqByteS r) := fun d => by kernel_rfl
theorem fn_l_eqByteS : Fn Try.prog 44 .plain F_l_eqByteS := fn_of (cfgOk_of mixed tys_ok (show FnsOk Try.prog C_l_eqByteS from trivial)) Try.func44 (by kernel_rfl) (by kernel_rfl) (fun cx b hp hb => all_of (by kernel_rfl : loopsOf (Try.f44.body.getD .skip) = [nthLoop Try.f44 0]) ⟨lo_l_eqByteS_4 cx hp, trivial⟩ b hb) (R := (Bool × Unit)) (T := fun (d : aden P_l_eqByteS) => T_l_eqByteS d.1 d.2.1) e_l_eqByteS
def P_l_eqIntS : List (Bool × List Sh) := [(false, [.sl 3 [.int .i64]]), (false, [.sl 3 [.int .i64]])]
def O_l_eqIntS (r : (Bool × Unit)) : List RV × List RV := ([rv (false, [.bool]) r], [])
def C_l_eqIntS : Fns := []
def F_l_eqIntS : Fun1 := funV P_l_eqIntS (fun d => (T_l_eqIntS d.1 d.2.1).val) O_l_eqIntS
def K_l_eqIntS_4 : Sk := ⟨[(0, .v false [(.sl 3 [.int .i64], .ro)]), (1, .v false [(.sl 3 [.int .i64], .ro)]), (5, .v false [(.int .i64, .nil)])], [], []⟩
def X_l_eqIntS_4 : List (Ex × Sk) := [(.ret, ⟨[(4, .v false [(.bool, .nil)])], [], []⟩), ((.exit 0), ⟨[], [], []⟩)]
def Q_l_eqIntS : Loops := fun i st => cond (Nat.beq i 4) (lam K_l_eqIntS_4 5000000 X_l_eqIntS_4 B_l_eqIntS_4 st) <| .fail
theorem lp_l_eqIntS_4 : ∀ d, bod ⟨lookT tys, ctrOf C_l_eqIntS, kindOf C_l_eqIntS, 3, 4⟩ 0 Try.f225.ntmps Q_l_eqIntS (nthLoop Try.f225 0) K_l_eqIntS_4 5000000 X_l_eqIntS_4 d = B_l_eqIntS_4 d := fun d => by kernel_rfl
theorem lo_l_eqIntS_4 (cx : Cx) (hp : cx.pin.length ≤ 0) : LoopOk Try.prog cx Try.f225.ntmps Q_l_eqIntS (nthLoop Try.f225 0) := loop_of (cfgOk_of mixed tys_ok (show FnsOk Try.prog C_l_eqIntS from trivial)) hp (all_of (by kernel_rfl : loopsOf (nthLoop Try.f225 0) = []) trivial) (by kernel_rfl) lp_l_eqIntS_4
theorem e_l_eqIntS : ∀ d, pcall ⟨lookT tys, ctrOf C_l_eqIntS, kindOf C_l_eqIntS, 3, 4⟩ 0 Q_l_eqIntS Try.f225 .plain (mkA P_l_eqIntS d) = (T_l_eqIntS d.1 d.2.1).run fun r => some (O_l_eqIntS r) := fun d => by kernel_rfl
theorem fn_l_eqIntS : Fn Try.prog 225 .plain F_l_eqIntS := fn_of (cfgOk_of mixed tys_ok (show FnsOk Try.prog C_l_eqIntS from trivial)) Try.func225 (by kernel_rfl) (by kernel_rfl) (fun cx b hp hb => all_of (by kernel_rfl : loopsOf (Try.f225.body.getD .skip) = [nthLoop Try.f225 0]) ⟨lo_l_eqIntS_4 cx hp, trivial⟩ b hb) (R := (Bool × Unit)) (T := fun (d : aden P_l_eqIntS) => T_l_eqIntS d.1 d.2.1) e_l_eqIntS
def P_l_eqWin : List (Bool × List Sh) := [(true, [.int .i64, .sl 3 [.int .i64]]), (true, [.int .i64, .sl 3 [.int .i64]])]
def O_l_eqWin (r : (Bool × Unit)) : List RV × List RV := ([rv (false, [.bool]) r], [])
def C_l_eqWin : Fns := [(225, .plain, F_l_eqIntS)]
def F_l_eqWin : Fun1 := funV P_l_eqWin (fun d => (T_l_eqWin d.1 d.2.1).val) O_l_eqWin
def Q_l_eqWin : Loops := fun _ _ => .fail
theorem e_l_eqWin : ∀ d, pcall ⟨lookT tys, ctrOf C_l_eqWin, kindOf C_l_eqWin, 3, 4⟩ 0 Q_l_eqWin Try.f201 .plain (mkA P_l_eqWin d) = (T_l_eqWin d.1 d.2.1).run fun r => some (O_l_eqWin r) := fun d => by kernel_rfl
theorem fn_l_eqWin : Fn Try.prog 201 .plain F_l_eqWin := fn_of (cfgOk_of mixed tys_ok (show FnsOk Try.prog C_l_eqWin from ⟨fn_l_eqIntS, trivial⟩)) Try.func201 (by kernel_rfl) (by kernel_rfl) (fun cx b hp hb => all_of (by kernel_rfl : loopsOf (Try.f201.body.getD .skip) = []) trivial b hb) (R := (Bool × Unit)) (T := fun (d : aden P_l_eqWin) => T_l_eqWin d.1 d.2.1) e_l_eqWin
def P_l_eqEp : List (Bool × List Sh) := [(true, h_7), (true, h_7)]
def O_l_eqEp (r : (Bool × Unit)) : List RV × List RV := ([rv (false, [.bool]) r], [])
def C_l_eqEp : Fns := [(44, .plain, F_l_eqByteS), (201, .plain, F_l_eqWin)]
def F_l_eqEp : Fun1 := funV P_l_eqEp (fun d => (T_l_eqEp d.1 d.2.1).val) O_l_eqEp
def Q_l_eqEp : Loops := fun _ _ => .fail
theorem e_l_eqEp : ∀ d, pcall ⟨lookT tys, ctrOf C_l_eqEp, kindOf C_l_eqEp, 3, 4⟩ 0 Q_l_eqEp Try.f150 .plain (mkA P_l_eqEp d) = (T_l_eqEp d.1 d.2.1).run fun r => some (O_l_eqEp r) := fun d => by kernel_rfl
theorem fn_l_eqEp : Fn Try.prog 150 .plain F_l_eqEp := fn_of (cfgOk_of mixed tys_ok (show FnsOk Try.prog C_l_eqEp from ⟨fn_l_eqByteS, fn_l_eqWin, trivial⟩)) Try.func150 (by kernel_rfl) (by kernel_rfl) (fun cx b hp hb => all_of (by kernel_rfl : loopsOf (Try.f150.body.getD .skip) = []) trivial b hb) (R := (Bool × Unit)) (T := fun (d : aden P_l_eqEp) => T_l_eqEp d.1 d.2.1) e_l_eqEp
def P_l_eqChan : List (Bool × List Sh) := [(true, h_12), (true, h_12)]
def O_l_eqChan (r : (Bool × Unit)) : List RV × List RV := ([rv (false, [.bool]) r], [])
def C_l_eqChan : Fns := [(44, .plain, F_l_eqByteS), (150, .plain, F_l_eqEp)]
def F_l_eqChan : Fun1 := funV P_l_eqChan (fun d => (T_l_eqChan d.1 d.2.1).val) O_l_eqChan
def Q_l_eqChan : Loops := fun _ _ => .fail
theorem e_l_eqChan : ∀ d, pcall ⟨lookT tys, ctrOf C_l_eqChan, kindOf C_l_eqChan, 3, 4⟩ 0 Q_l_eqChan Try.f64 .plain (mkA P_l_eqChan d) = (T_l_eqChan d.1 d.2.1).run fun r => some (O_l_eqChan r) := fun d => by kernel_rfl
theorem fn_l_eqChan : Fn Try.prog 64 .plain F_l_eqChan := fn_of (cfgOk_of mixed tys_ok (show FnsOk Try.prog C_l_eqChan from ⟨fn_l_eqByteS, fn_l_eqEp, trivial⟩)) Try.func64 (by kernel_rfl) (by kernel_rfl) (fun cx b hp hb => all_of (by kernel_rfl : loopsOf (Try.f64.body.getD .skip) = []) trivial b hb) (R := (Bool × Unit)) (T := fun (d : aden P_l_eqChan) => T_l_eqChan d.1 d.2.1) e_l_eqChan
def P_l_eqAddr : List (Bool × List Sh) := [(true, [.int .i64, .int .i64]), (true, [.int .i64, .int .i64])]
def O_l_eqAddr (r : (Bool × Unit)) : List RV × List RV := ([rv (false, [.bool]) r], [])
def C_l_eqAddr : Fns := []
def F_l_eqAddr : Fun1 := funV P_l_eqAddr (fun d => (T_l_eqAddr d.1 d.2.1).val) O_l_eqAddr
def Q_l_eqAddr : Loops := fun _ _ => .fail
theorem e_l_eqAddr : ∀ d, pcall ⟨lookT tys, ctrOf C_l_eqAddr, kindOf C_l_eqAddr, 3, 4⟩ 0 Q_l_eqAddr Try.f108 .plain (mkA P_l_eqAddr d) = (T_l_eqAddr d.1 d.2.1).run fun r => some (O_l_eqAddr r) := fun d => by kernel_rfl
theorem fn_l_eqAddr : Fn Try.prog 108 .plain F_l_eqAddr := fn_of (cfgOk_of mixed tys_ok (show FnsOk Try.prog C_l_eqAddr from trivial)) Try.func108 (by kernel_rfl) (by kernel_rfl) (fun cx b hp hb => all_of (by kernel_rfl : loopsOf (Try.f108.body.getD .skip) = []) trivial b hb) (R := (Bool × Unit)) (T := fun (d : aden P_l_eqAddr) => T_l_eqAddr d.1 d.2.1) e_l_eqAddr
def P_l_eqCand : List (Bool × List Sh) := [(true, h_5), (true, h_5)]
def O_l_eqCand (r : (Bool × Unit)) : List RV × List RV := ([rv (false, [.bool]) r], [])
def C_l_eqCand : Fns := [(108, .plain, F_l_eqAddr), (44, .plain, F_l_eqByteS)]
def F_l_eqCand : Fun1 := funV P_l_eqCand (fun d => (T_l_eqCand d.1 d.2.1).val) O_l_eqCand
def Q_l_eqCand : Loops := fun _ _ => .fail
theorem e_l_eqCand : ∀ d, pcall ⟨lookT tys, ctrOf C_l_eqCand, kindOf C_l_eqCand, 3, 4⟩ 0 Q_l_eqCand Try.f202 .plain (mkA P_l_eqCand d) = (T_l_eqCand d.1 d.2.1).run fun r => some (O_l_eqCand r) := fun d => by kernel_rfl
theorem fn_l_eqCand : Fn Try.prog 202 .plain F_l_eqCand := fn_of (cfgOk_of mixed tys_ok (show FnsOk Try.prog C_l_eqCand from ⟨fn_l_eqAddr, fn_l_eqByteS, trivial⟩)) Try.func202 (by kernel_rfl) (by kernel_rfl) (fun cx b hp hb => all_of (by kernel_rfl : loopsOf (Try.f202.body.getD .skip) = []) trivial b hb) (R := (Bool × Unit)) (T := fun (d : aden P_l_eqCand) => T_l_eqCand d.1 d.2.1) e_l_eqCand
def P_l_eqCandS : List (Bool × List Sh) := [(false, [.sl 201 h_5]), (false, [.sl 201 h_5])]
def O_l_eqCandS (r : (Bool × Unit)) : List RV × List RV := ([rv (false, [.bool]) r], [])
def C_l_eqCandS : Fns := [(202, .plain, F_l_eqCand)]
def F_l_eqCandS : Fun1 := funV P_l_eqCandS (fun d => (T_l_eqCandS d.1 d.2.1).val) O_l_eqCandS
def K_l_eqCandS_4 : Sk := ⟨[(0, .v false [(.sl 201 h_5, .ro)]), (1, .v false [(.sl 201 h_5, .ro)]), (5, .v false [(.int .i64, .nil)])], [], []⟩
def X_l_eqCandS_4 : List (Ex × Sk) := [(.ret, ⟨[(4, .v false [(.bool, .nil)])], [], []⟩), ((.exit 0), ⟨[], [], []⟩)]
def Q_l_eqCandS : Loops := fun i st => cond (Nat.beq i 4) (lam K_l_eqCandS_4 5000000 X_l_eqCandS_4 B_l_eqCandS_4 st) <| .fail
theorem lp_l_eqCandS_4 : ∀ d, bod ⟨lookT tys, ctrOf C_l_eqCandS, kindOf C_l_eqCandS, 3, 4⟩ 0 Try.f151.ntmps Q_l_eqCandS (nthLoop Try.f151 0) K_l_eqCandS_4 5000000 X_l_eqCandS_4 d = B_l_eqCandS_4 d := fun d => by kernel_rfl
theorem lo_l_eqCandS_4 (cx : Cx) (hp : cx.pin.length ≤ 0) : LoopOk Try.prog cx Try.f151.ntmps Q_l_eqCandS (nthLoop Try.f151 0) := loop_of (cfgOk_of mixed tys_ok (show FnsOk Try.prog C_l_eqCandS from ⟨fn_l_eqCand, trivial⟩)) hp (all_of (by kernel_rfl : loopsOf (nthLoop Try.f151 0) = []) trivial) (by kernel_rfl) lp_l_eqCandS_4
theorem e_l_eqCandS : ∀ d, pcall ⟨lookT tys, ctrOf C_l_eqCandS, kindOf C_l_eqCandS, 3, 4⟩ 0 Q_l_eqCandS Try.f151 .plain (mkA P_l_eqCandS d) = (T_l_eqCandS d.1 d.2.1).run fun r => some (O_l_eqCandS r) := fun d => by kernel_rfl
theorem fn_l_eqCandS : Fn Try.prog 151 .plain F_l_eqCandS := fn_of (cfgOk_of mixed tys_ok (show FnsOk Try.prog C_l_eqCandS from ⟨fn_l_eqCand, trivial⟩)) Try.func151 (by kernel_rfl) (by kernel_rfl) (fun cx b hp hb => all_of (by kernel_rfl : loopsOf (Try.f151.body.getD .skip) = [nthLoop Try.f151 0]) ⟨lo_l_eqCandS_4 cx hp, trivial⟩ b hb) (R := (Bool × Unit)) (T := fun (d : aden P_l_eqCandS) => T_l_eqCandS d.1 d.2.1) e_l_eqCandS
def P_l_eqPaths : List (Bool × List Sh) := [(true, h_9), (true, h_9)]
def O_l_eqPaths (r : (Bool × Unit)) : List RV × List RV := ([rv (false, [.bool]) r], [])
def C_l_eqPaths : Fns := [(108, .plain, F_l_eqAddr), (151, .plain, F_l_eqCandS)]
def F_l_eqPaths : Fun1 := funV P_l_eqPaths (fun d => (T_l_eqPaths d.1 d.2.1).val) O_l_eqPaths
def Q_l_eqPaths : Loops := fun _ _ => .fail
theorem e_l_eqPaths : ∀ d, pcall ⟨lookT tys, ctrOf C_l_eqPaths, kindOf C_l_eqPaths, 3, 4⟩ 0 Q_l_eqPaths Try.f65 .plain (mkA P_l_eqPaths d) = (T_l_eqPaths d.1 d.2.1).run fun r => some (O_l_eqPaths r) := fun d => by kernel_rfl
theorem fn_l_eqPaths : Fn Try.prog 65 .plain F_l_eqPaths := fn_of (cfgOk_of mixed tys_ok (show FnsOk Try.prog C_l_eqPaths from ⟨fn_l_eqAddr, fn_l_eqCandS, trivial⟩)) Try.func65 (by kernel_rfl) (by kernel_rfl) (fun cx b hp hb => all_of (by kernel_rfl : loopsOf (Try.f65.body.getD .skip) = []) trivial b hb) (R := (Bool × Unit)) (T := fun (d : aden P_l_eqPaths) => T_l_eqPaths d.1 d.2.1) e_l_eqPaths
def P_l_eqSess : List (Bool × List Sh) := [(true, h_14), (true, h_14)]
def O_l_eqSess (r : (Bool × Unit)) : List RV × List RV := ([rv (false, [.bool]) r], [])
def C_l_eqSess : Fns := [(44, .plain, F_l_eqByteS), (64, .plain, F_l_eqChan), (65, .plain, F_l_eqPaths)]
def F_l_eqSess : Fun1 := funV P_l_eqSess (fun d => (T_l_eqSess d.1 d.2.1).val) O_l_eqSess
def Q_l_eqSess : Loops := fun _ _ => .fail
theorem e_l_eqSess : ∀ d, pcall ⟨lookT tys, ctrOf C_l_eqSess, kindOf C_l_eqSess, 3, 4⟩ 0 Q_l_eqSess Try.f13 .plain (mkA P_l_eqSess d) = (T_l_eqSess d.1 d.2.1).run fun r => some (O_l_eqSess r) := fun d => by kernel_rfl
theorem fn_l_eqSess : Fn Try.prog 13 .plain F_l_eqSess := fn_of (cfgOk_of mixed tys_ok (show FnsOk Try.prog C_l_eqSess from ⟨fn_l_eqByteS, fn_l_eqChan, fn_l_eqPaths, trivial⟩)) Try.func13 (by kernel_rfl) (by kernel_rfl) (fun cx b hp hb => all_of (by kernel_rfl : loopsOf (Try.f13.body.getD .skip) = []) trivial b hb) (R := (Bool × Unit)) (T := fun (d : aden P_l_eqSess) => T_l_eqSess d.1 d.2.1) e_l_eqSess
def P_l_markByteS : List (Bool × List Sh) := [(false, [.sl 5 [.int .u8]]), (false, [.int .i64])]
def O_l_markByteS (r : (YI) × (YBs)) : List RV × List RV := ([rv (false, [.int .i64]) r.1], [rv (false, [.sl 5 [.int .u8]]) r.2])
def C_l_markByteS : Fns := []
def F_l_markByteS : Fun1 := funV P_l_markByteS (fun d => (T_l_markByteS d.1 d.2.1).val) O_l_markByteS
def K_l_markByteS_2 : Sk := ⟨[(0, .v false [(.sl 5 [.int .u8], (.own 3000000))]), (1, .v false [(.int .i64, .nil)]), (5, .v false [(.int .i64, .nil)])], [], [3000000]⟩
def X_l_markByteS_2 : List (Ex × Sk) := [((.exit 0), ⟨[(0, .v false [(.sl 5 [.int .u8], (.own 3000000))]), (1, .v false [(.int .i64, .nil)])], [], [3000000]⟩)]
def Q_l_markByteS : Loops := fun i st => cond (Nat.beq i 2) (lam K_l_markByteS_2 3000000 X_l_markByteS_2 B_l_markByteS_2 st) <| .fail
theorem lp_l_markByteS_2 : ∀ d, bod ⟨lookT tys, ctrOf C_l_markByteS, kindOf C_l_markByteS, 3, 4⟩ 1 Try.f51.ntmps Q_l_markByteS (nthLoop Try.f51 0) K_l_markByteS_2 3000000 X_l_markByteS_2 d = B_l_markByteS_2 d := fun d => by kernel_rfl
theorem lo_l_markByteS_2 (cx : Cx) (hp : cx.pin.length ≤ 1) : LoopOk Try.prog cx Try.f51.ntmps Q_l_markByteS (nthLoop Try.f51 0) := loop_of (cfgOk_of mixed tys_ok (show FnsOk Try.prog C_l_markByteS from trivial)) hp (all_of (by kernel_rfl : loopsOf (nthLoop Try.f51 0) = []) trivial) (by kernel_rfl) lp_l_markByteS_2
theorem e_l_markByteS : ∀ d, pcall ⟨lookT tys, ctrOf C_l_markByteS, kindOf C_l_markByteS, 3, 4⟩ 1 Q_l_markByteS Try.f51 (.lend [1]) (mkA P_l_markByteS d) = (T_l_markByteS d.1 d.2.1).run fun r => some (O_l_markByteS r) := fun d => by kernel_rfl
theorem fn_l_markByteS : Fn Try.prog 51 (.lend [1]) F_l_markByteS := fn_of (cfgOk_of mixed tys_ok (show FnsOk Try.prog C_l_markByteS from trivial)) Try.func51 (by kernel_rfl) (by kernel_rfl) (fun cx b hp hb => all_of (by kernel_rfl : loopsOf (Try.f51.body.getD .skip) = [nthLoop Try.f51 0]) ⟨lo_l_markByteS_2 cx hp, trivial⟩ b hb) (R := (YI) × (YBs)) (T := fun (d : aden P_l_markByteS) => T_l_markByteS d.1 d.2.1) e_l_markByteS
def P_l_markIntS : List (Bool × List Sh) := [(false, [.sl 3 [.int .i64]]), (false, [.int .i64])]
def O_l_markIntS (r : (YI) × ((List YI) × Unit)) : List RV × List RV := ([rv (false, [.int .i64]) r.1], [rv (false, [.sl 3 [.int .i64]]) r.2])
def C_l_markIntS : Fns := []
def F_l_markIntS : Fun1 := funV P_l_markIntS (fun d => (T_l_markIntS d.1 d.2.1).val) O_l_markIntS
def K_l_markIntS_2 : Sk := ⟨[(0, .v false [(.sl 3 [.int .i64], (.own 3000000))]), (1, .v false [(.int .i64, .nil)]), (5, .v false [(.int .i64, .nil)])], [], [3000000]⟩
def X_l_markIntS_2 : List (Ex × Sk) := [((.exit 0), ⟨[(0, .v false [(.sl 3 [.int .i64], (.own 3000000))]), (1, .v false [(.int .i64, .nil)])], [], [3000000]⟩)]
def Q_l_markIntS : Loops := fun i st => cond (Nat.beq i 2) (lam K_l_markIntS_2 3000000 X_l_markIntS_2 B_l_markIntS_2 st) <| .fail
theorem lp_l_markIntS_2 : ∀ d, bod ⟨lookT tys, ctrOf C_l_markIntS, kindOf C_l_markIntS, 3, 4⟩ 1 Try.f226.ntmps Q_l_markIntS (nthLoop Try.f226 0) K_l_markIntS_2 3000000 X_l_markIntS_2 d = B_l_markIntS_2 d := fun d => by kernel_rfl
theorem lo_l_markIntS_2 (cx : Cx) (hp : cx.pin.length ≤ 1) : LoopOk Try.prog cx Try.f226.ntmps Q_l_markIntS (nthLoop Try.f226 0) := loop_of (cfgOk_of mixed tys_ok (show FnsOk Try.prog C_l_markIntS from trivial)) hp (all_of (by kernel_rfl : loopsOf (nthLoop Try.f226 0) = []) trivial) (by kernel_rfl) lp_l_markIntS_2
theorem e_l_markIntS : ∀ d, pcall ⟨lookT tys, ctrOf C_l_markIntS, kindOf C_l_markIntS, 3, 4⟩ 1 Q_l_markIntS Try.f226 (.lend [1]) (mkA P_l_markIntS d) = (T_l_markIntS d.1 d.2.1).run fun r => some (O_l_markIntS r) := fun d => by kernel_rfl
theorem fn_l_markIntS : Fn Try.prog 226 (.lend [1]) F_l_markIntS := fn_of (cfgOk_of mixed tys_ok (show FnsOk Try.prog C_l_markIntS from trivial)) Try.func226 (by kernel_rfl) (by kernel_rfl) (fun cx b hp hb => all_of (by kernel_rfl : loopsOf (Try.f226.body.getD .skip) = [nthLoop Try.f226 0]) ⟨lo_l_markIntS_2 cx hp, trivial⟩ b hb) (R := (YI) × ((List YI) × Unit)) (T := fun (d : aden P_l_markIntS) => T_l_markIntS d.1 d.2.1) e_l_markIntS
def P_l_markWin : List (Bool × List Sh) := [(true, [.int .i64, .sl 3 [.int .i64]]), (false, [.int .i64])]
def O_l_markWin (r : (YI) × (YWin)) : List RV × List RV := ([rv (false, [.int .i64]) r.1], [rv (true, [.int .i64, .sl 3 [.int .i64]]) r.2])
def C_l_markWin : Fns := [(226, (.lend [1]), F_l_markIntS)]
def F_l_markWin : Fun1 := funV P_l_markWin (fun d => (T_l_markWin d.1 d.2.1).val) O_l_markWin
def Q_l_markWin : Loops := fun _ _ => .fail
theorem e_l_markWin : ∀ d, pcall ⟨lookT tys, ctrOf C_l_markWin, kindOf C_l_markWin, 3, 4⟩ 1 Q_l_markWin Try.f203 (.lend [1]) (mkA P_l_markWin d) = (T_l_markWin d.1 d.2.1).run fun r => some (O_l_markWin r) := fun d => by kernel_rfl
theorem fn_l_markWin : Fn Try.prog 203 (.lend [1]) F_l_markWin := fn_of (cfgOk_of mixed tys_ok (show FnsOk Try.prog C_l_markWin from ⟨fn_l_markIntS, trivial⟩)) Try.func203 (by kernel_rfl) (by kernel_rfl) (fun cx b hp hb => all_of (by kernel_rfl : loopsOf (Try.f203.body.getD .skip) = []) trivial b hb) (R := (YI) × (YWin)) (T := fun (d : aden P_l_markWin) => T_l_markWin d.1 d.2.1) e_l_markWin
def P_l_markEp : List (Bool × List Sh) := [(true, h_7), (false, [.int .i64])]
def O_l_markEp (r : (YI) × (YEp)) : List RV × List RV := ([rv (false, [.int .i64]) r.1], [rv (true, h_7) r.2])
def C_l_markEp : Fns := [(51, (.lend [1]), F_l_markByteS), (203, (.lend [1]), F_l_markWin)]
def F_l_markEp : Fun1 := funV P_l_markEp (fun d => (T_l_markEp d.1 d.2.1).val) O_l_markEp
def Q_l_markEp : Loops := fun _ _ => .fail
theorem e_l_markEp : ∀ d, pcall ⟨lookT tys, ctrOf C_l_markEp, kindOf C_l_markEp, 3, 4⟩ 1 Q_l_markEp Try.f152 (.lend [1]) (mkA P_l_markEp d) = (T_l_markEp d.1 d.2.1).run fun r => some (O_l_markEp r) := fun d => by kernel_rfl
theorem fn_l_markEp : Fn Try.prog 152 (.lend [1]) F_l_markEp := fn_of (cfgOk_of mixed tys_ok (show FnsOk Try.prog C_l_markEp from ⟨fn_l_markByteS, fn_l_markWin, trivial⟩)) Try.func152 (by kernel_rfl) (by kernel_rfl) (fun cx b hp hb => all_of (by kernel_rfl : loopsOf (Try.f152.body.getD .skip) = []) trivial b hb) (R := (YI) × (YEp)) (T := fun (d : aden P_l_markEp) => T_l_markEp d.1 d.2.1) e_l_markEp
def P_l_markChan : List (Bool × List Sh) := [(true, h_12), (false, [.int .i64])]
def O_l_markChan (r : (YI) × (YChan)) : List RV × List RV := ([rv (false, [.int .i64]) r.1], [rv (true, h_12) r.2])
def C_l_markChan : Fns := [(51, (.lend [1]), F_l_markByteS), (152, (.lend [1]), F_l_markEp)]
def F_l_markChan : Fun1 := funV P_l_markChan (fun d => (T_l_markChan d.1 d.2.1).val) O_l_markChan
def Q_l_markChan : Loops := fun _ _ => .fail
theorem e_l_markChan : ∀ d, pcall ⟨lookT tys, ctrOf C_l_markChan, kindOf C_l_markChan, 3, 4⟩ 1 Q_l_markChan Try.f66 (.lend [1]) (mkA P_l_markChan d) = (T_l_markChan d.1 d.2.1).run fun r => some (O_l_markChan r) := fun d => by kernel_rfl
theorem fn_l_markChan : Fn Try.prog 66 (.lend [1]) F_l_markChan := fn_of (cfgOk_of mixed tys_ok (show FnsOk Try.prog C_l_markChan from ⟨fn_l_markByteS, fn_l_markEp, trivial⟩)) Try.func66 (by kernel_rfl) (by kernel_rfl) (fun cx b hp hb => all_of (by kernel_rfl : loopsOf (Try.f66.body.getD .skip) = []) trivial b hb) (R := (YI) × (YChan)) (T := fun (d : aden P_l_markChan) => T_l_markChan d.1 d.2.1) e_l_markChan
def P_l_markCandS : List (Bool × List Sh) := [(false, [.sl 201 h_5]), (false, [.int .i64])]
def O_l_markCandS (r : (YI) × ((List YCand) × Unit)) : List RV × List RV := ([rv (false, [.int .i64]) r.1], [rv (false, [.sl 201 h_5]) r.2])
def C_l_markCandS : Fns := [(51, (.lend [1]), F_l_markByteS)]
def F_l_markCandS : Fun1 := funV P_l_markCandS (fun d => (T_l_markCandS d.1 d.2.1).val) O_l_markCandS
def K_l_markCandS_2 : Sk := ⟨[(0, .v false [(.sl 201 h_5, (.own 3000000))]), (1, .v false [(.int .i64, .nil)]), (5, .v false [(.int .i64, .nil)])], [], [3000000]⟩
def X_l_markCandS_2 : List (Ex × Sk) := [((.exit 0), ⟨[(0, .v false [(.sl 201 h_5, (.own 3000000))]), (1, .v false [(.int .i64, .nil)])], [], [3000000]⟩)]
def Q_l_markCandS : Loops := fun i st => cond (Nat.beq i 2) (lam K_l_markCandS_2 3000000 X_l_markCandS_2 B_l_markCandS_2 st) <| .fail
theorem lp_l_markCandS_2 : ∀ d, bod ⟨lookT tys, ctrOf C_l_markCandS, kindOf C_l_markCandS, 3, 4⟩ 1 Try.f153.ntmps Q_l_markCandS (nthLoop Try.f153 0) K_l_markCandS_2 3000000 X_l_markCandS_2 d = B_l_markCandS_2 d := fun d => by kernel_rfl
theorem lo_l_markCandS_2 (cx : Cx) (hp : cx.pin.length ≤ 1) : LoopOk Try.prog cx Try.f153.ntmps Q_l_markCandS (nthLoop Try.f153 0) := loop_of (cfgOk_of mixed tys_ok (show FnsOk Try.prog C_l_markCandS from ⟨fn_l_markByteS, trivial⟩)) hp (all_of (by kernel_rfl : loopsOf (nthLoop Try.f153 0) = []) trivial) (by kernel_rfl) lp_l_markCandS_2
theorem e_l_markCandS : ∀ d, pcall ⟨lookT tys, ctrOf C_l_markCandS, kindOf C_l_markCandS, 3, 4⟩ 1 Q_l_markCandS Try.f153 (.lend [1]) (mkA P_l_markCandS d) = (T_l_markCandS d.1 d.2.1).run fun r => some (O_l_markCandS r) := fun d => by kernel_rfl
theorem fn_l_markCandS : Fn Try.prog 153 (.lend [1]) F_l_markCandS := fn_of (cfgOk_of mixed tys_ok (show FnsOk Try.prog C_l_markCandS from ⟨fn_l_markByteS, trivial⟩)) Try.func153 (by kernel_rfl) (by kernel_rfl) (fun cx b hp hb => all_of (by kernel_rfl : loopsOf (Try.f153.body.getD .skip) = [nthLoop Try.f153 0]) ⟨lo_l_markCandS_2 cx hp, trivial⟩ b hb) (R := (YI) × ((List YCand) × Unit)) (T := fun (d : aden P_l_markCandS) => T_l_markCandS d.1 d.2.1) e_l_markCandS
def P_l_markPaths : List (Bool × List Sh) := [(true, h_9), (false, [.int .i64])]
def O_l_markPaths (r : (YI) × (YPaths)) : List RV × List RV := ([rv (false, [.int .i64]) r.1], [rv (true, h_9) r.2])
def C_l_markPaths : Fns := [(153, (.lend [1]), F_l_markCandS)]
def F_l_markPaths : Fun1 := funV P_l_markPaths (fun d => (T_l_markPaths d.1 d.2.1).val) O_l_markPaths
def Q_l_markPaths : Loops := fun _ _ => .fail
theorem e_l_markPaths : ∀ d, pcall ⟨lookT tys, ctrOf C_l_markPaths, kindOf C_l_markPaths, 3, 4⟩ 1 Q_l_markPaths Try.f67 (.lend [1]) (mkA P_l_markPaths d) = (T_l_markPaths d.1 d.2.1).run fun r => some (O_l_markPaths r) := fun d => by kernel_rfl
theorem fn_l_markPaths : Fn Try.prog 67 (.lend [1]) F_l_markPaths := fn_of (cfgOk_of mixed tys_ok (show FnsOk Try.prog C_l_markPaths from ⟨fn_l_markCandS, trivial⟩)) Try.func67 (by kernel_rfl) (by kernel_rfl) (fun cx b hp hb => all_of (by kernel_rfl : loopsOf (Try.f67.body.getD .skip) = []) trivial b hb) (R := (YI) × (YPaths)) (T := fun (d : aden P_l_markPaths) => T_l_markPaths d.1 d.2.1) e_l_markPaths
def P_l_markSess : List (Bool × List Sh) := [(true, h_14), (false, [.int .i64])]
def O_l_markSess (r : (YI) × (YSess)) : List RV × List RV := ([rv (false, [.int .i64]) r.1], [rv (true, h_14) r.2])
def C_l_markSess : Fns := [(51, (.lend [1]), F_l_markByteS), (66, (.lend [1]), F_l_markChan), (67, (.lend [1]), F_l_markPaths)]
def F_l_markSess : Fun1 := funV P_l_markSess (fun d => (T_l_markSess d.1 d.2.1).val) O_l_markSess
def Q_l_markSess : Loops := fun _ _ => .fail
theorem e_l_markSess : ∀ d, pcall ⟨lookT tys, ctrOf C_l_markSess, kindOf C_l_markSess, 3, 4⟩ 1 Q_l_markSess Try.f14 (.lend [1]) (mkA P_l_markSess d) = (T_l_markSess d.1 d.2.1).run fun r => some (O_l_markSess r) := fun d => by kernel_rfl
theorem fn_l_markSess : Fn Try.prog 14 (.lend [1]) F_l_markSess := fn_of (cfgOk_of mixed tys_ok (show FnsOk Try.prog C_l_markSess from ⟨fn_l_markByteS, fn_l_markChan, fn_l_markPaths, trivial⟩)) Try.func14 (by kernel_rfl) (by kernel_rfl) (fun cx b hp hb => all_of (by kernel_rfl : loopsOf (Try.f14.body.getD .skip) = []) trivial b hb) (R := (YI) × (YSess)) (T := fun (d : aden P_l_markSess) => T_l_markSess d.1 d.2.1) e_l_markSess
def P_l_heldByteS : List (Bool × List Sh) := [(false, [.sl 5 [.int .u8]]), (false, [.int .i64])]
def O_l_heldByteS (r : (YI)) : List RV × List RV := ([rv (false, [.int .i64]) r], [])
def C_l_heldByteS : Fns := []
def F_l_heldByteS : Fun1 := funV P_l_heldByteS (fun d => (T_l_heldByteS d.1 d.2.1).val) O_l_heldByteS
def K_l_heldByteS_2 : Sk := ⟨[(0, .v false [(.sl 5 [.int .u8], .ro)]), (1, .v false [(.int .i64, .nil)]), (5, .v false [(.int .i64, .nil)])], [], []⟩
def X_l_heldByteS_2 : List (Ex × Sk) := [(.ret, ⟨[(4, .v false [(.int .i64, .nil)])], [], []⟩), ((.exit 0), ⟨[(1, .v false [(.int .i64, .nil)])], [], []⟩)]
def Q_l_heldByteS : Loops := fun i st => cond (Nat.beq i 2) (lam K_l_heldByteS_2 3000000 X_l_heldByteS_2 B_l_heldByteS_2 st) <| .fail
theorem lp_l_heldByteS_2 : ∀ d, bod ⟨lookT tys, ctrOf C_l_heldByteS, kindOf C_l_heldByteS, 3, 4⟩ 0 Try.f52.ntmps Q_l_heldByteS (nthLoop Try.f52 0) K_l_heldByteS_2 3000000 X_l_heldByteS_2 d = B_l_heldByteS_2 d := fun d => by kernel_rfl
theorem lo_l_heldByteS_2 (cx : Cx) (hp : cx.pin.length ≤ 0) : LoopOk Try.prog cx Try.f52.ntmps Q_l_heldByteS (nthLoop Try.f52 0) := loop_of (cfgOk_of mixed tys_ok (show FnsOk Try.prog C_l_heldByteS from trivial)) hp (all_of (by kernel_rfl : loopsOf (nthLoop Try.f52 0) = []) trivial) (by kernel_rfl) lp_l_heldByteS_2
theorem e_l_heldByteS : ∀ d, pcall ⟨lookT tys, ctrOf C_l_heldByteS, kindOf C_l_heldByteS, 3, 4⟩ 0 Q_l_heldByteS Try.f52 .plain (mkA P_l_heldByteS d) = (T_l_heldByteS d.1 d.2.1).run fun r => some (O_l_heldByteS r) := fun d => by kernel_rfl
theorem fn_l_heldByteS : Fn Try.prog 52 .plain F_l_heldByteS := fn_of (cfgOk_of mixed tys_ok (show FnsOk Try.prog C_l_heldByteS from trivial)) Try.func52 (by kernel_rfl) (by kernel_rfl) (fun cx b hp hb => all_of (by kernel_rfl : loopsOf (Try.f52.body.getD .skip) = [nthLoop Try.f52 0]) ⟨lo_l_heldByteS_2 cx hp, trivial⟩ b hb) (R := (YI)) (T := fun (d : aden P_l_heldByteS) => T_l_heldByteS d.1 d.2.1) e_l_heldByteS
def P_l_heldIntS : List (Bool × List Sh) := [(false, [.sl 3 [.int .i64]]), (false, [.int .i64])]
def O_l_heldIntS (r : (YI)) : List RV × List RV := ([rv (false, [.int .i64]) r], [])
def C_l_heldIntS : Fns := []
def F_l_heldIntS : Fun1 := funV P_l_heldIntS (fun d => (T_l_heldIntS d.1 d.2.1).val) O_l_heldIntS
def K_l_heldIntS_2 : Sk := ⟨[(0, .v false [(.sl 3 [.int .i64], .ro)]), (1, .v false [(.int .i64, .nil)]), (5, .v false [(.int .i64, .nil)])], [], []⟩
def X_l_heldIntS_2 : List (Ex × Sk) := [(.ret, ⟨[(4, .v false [(.int .i64, .nil)])], [], []⟩), ((.exit 0), ⟨[(1, .v false [(.int .i64, .nil)])], [], []⟩)]
def Q_l_heldIntS : Loops := fun i st => cond (Nat.beq i 2) (lam K_l_heldIntS_2 3000000 X_l_heldIntS_2 B_l_heldIntS_2 st) <| .fail
theorem lp_l_heldIntS_2 : ∀ d, bod ⟨lookT tys, ctrOf C_l_heldIntS, kindOf C_l_heldIntS, 3, 4⟩ 0 Try.f227.ntmps Q_l_heldIntS (nthLoop Try.f227 0) K_l_heldIntS_2 3000000 X_l_heldIntS_2 d = B_l_heldIntS_2 d := fun d => by kernel_rfl
theorem lo_l_heldIntS_2 (cx : Cx) (hp : cx.pin.length ≤ 0) : LoopOk Try.prog cx Try.f227.ntmps Q_l_heldIntS (nthLoop Try.f227 0) := loop_of (cfgOk_of mixed tys_ok (show FnsOk Try.prog C_l_heldIntS from trivial)) hp (all_of (by kernel_rfl : loopsOf (nthLoop Try.f227 0) = []) trivial) (by kernel_rfl) lp_l_heldIntS_2
theorem e_l_heldIntS : ∀ d, pcall ⟨lookT tys, ctrOf C_l_heldIntS, kindOf C_l_heldIntS, 3, 4⟩ 0 Q_l_heldIntS Try.f227 .plain (mkA P_l_heldIntS d) = (T_l_heldIntS d.1 d.2.1).run fun r => some (O_l_heldIntS r) := fun d => by kernel_rfl
theorem fn_l_heldIntS : Fn Try.prog 227 .plain F_l_heldIntS := fn_of (cfgOk_of mixed tys_ok (show FnsOk Try.prog C_l_heldIntS from trivial)) Try.func227 (by kernel_rfl) (by kernel_rfl) (fun cx b hp hb => all_of (by kernel_rfl : loopsOf (Try.f227.body.getD .skip) = [nthLoop Try.f227 0]) ⟨lo_l_heldIntS_2 cx hp, trivial⟩ b hb) (R := (YI)) (T := fun (d : aden P_l_heldIntS) => T_l_heldIntS d.1 d.2.1) e_l_heldIntS
def P_l_heldWin : List (Bool × List Sh) := [(true, [.int .i64, .sl 3 [.int .i64]]), (false, [.int .i64])]
def O_l_heldWin (r : (YI)) : List RV × List RV := ([rv (false, [.int .i64]) r], [])
def C_l_heldWin : Fns := [(227, .plain, F_l_heldIntS)]
def F_l_heldWin : Fun1 := funV P_l_heldWin (fun d => (T_l_heldWin d.1 d.2.1).val) O_l_heldWin
def Q_l_heldWin : Loops := fun _ _ => .fail
theorem e_l_heldWin : ∀ d, pcall ⟨lookT tys, ctrOf C_l_heldWin, kindOf C_l_heldWin, 3, 4⟩ 0 Q_l_heldWin Try.f204 .plain (mkA P_l_heldWin d) = (T_l_heldWin d.1 d.2.1).run fun r => some (O_l_heldWin r) := fun d => by kernel_rfl
theorem fn_l_heldWin : Fn Try.prog 204 .plain F_l_heldWin := fn_of (cfgOk_of mixed tys_ok (show FnsOk Try.prog C_l_heldWin from ⟨fn_l_heldIntS, trivial⟩)) Try.func204 (by kernel_rfl) (by kernel_rfl) (fun cx b hp hb => all_of (by kernel_rfl : loopsOf (Try.f204.body.getD .skip) = []) trivial b hb) (R := (YI)) (T := fun (d : aden P_l_heldWin) => T_l_heldWin d.1 d.2.1) e_l_heldWin
def P_l_heldEp : List (Bool × List Sh) := [(true, h_7), (false, [.int .i64])]
def O_l_heldEp (r : (YI)) : List RV × List RV := ([rv (false, [.int .i64]) r], [])
def C_l_heldEp : Fns := [(52, .plain, F_l_heldByteS), (204, .plain, F_l_heldWin)]
def F_l_heldEp : Fun1 := funV P_l_heldEp (fun d => (T_l_heldEp d.1 d.2.1).val) O_l_heldEp
def Q_l_heldEp : Loops := fun _ _ => .fail
theorem e_l_heldEp : ∀ d, pcall ⟨lookT tys, ctrOf C_l_heldEp, kindOf C_l_heldEp, 3, 4⟩ 0 Q_l_heldEp Try.f154 .plain (mkA P_l_heldEp d) = (T_l_heldEp d.1 d.2.1).run fun r => some (O_l_heldEp r) := fun d => by kernel_rfl
theorem fn_l_heldEp : Fn Try.prog 154 .plain F_l_heldEp := fn_of (cfgOk_of mixed tys_ok (show FnsOk Try.prog C_l_heldEp from ⟨fn_l_heldByteS, fn_l_heldWin, trivial⟩)) Try.func154 (by kernel_rfl) (by kernel_rfl) (fun cx b hp hb => all_of (by kernel_rfl : loopsOf (Try.f154.body.getD .skip) = []) trivial b hb) (R := (YI)) (T := fun (d : aden P_l_heldEp) => T_l_heldEp d.1 d.2.1) e_l_heldEp
def P_l_heldChan : List (Bool × List Sh) := [(true, h_12), (false, [.int .i64])]
def O_l_heldChan (r : (YI)) : List RV × List RV := ([rv (false, [.int .i64]) r], [])
def C_l_heldChan : Fns := [(52, .plain, F_l_heldByteS), (154, .plain, F_l_heldEp)]
def F_l_heldChan : Fun1 := funV P_l_heldChan (fun d => (T_l_heldChan d.1 d.2.1).val) O_l_heldChan
def Q_l_heldChan : Loops := fun _ _ => .fail
theorem e_l_heldChan : ∀ d, pcall ⟨lookT tys, ctrOf C_l_heldChan, kindOf C_l_heldChan, 3, 4⟩ 0 Q_l_heldChan Try.f68 .plain (mkA P_l_heldChan d) = (T_l_heldChan d.1 d.2.1).run fun r => some (O_l_heldChan r) := fun d => by kernel_rfl
theorem fn_l_heldChan : Fn Try.prog 68 .plain F_l_heldChan := fn_of (cfgOk_of mixed tys_ok (show FnsOk Try.prog C_l_heldChan from ⟨fn_l_heldByteS, fn_l_heldEp, trivial⟩)) Try.func68 (by kernel_rfl) (by kernel_rfl) (fun cx b hp hb => all_of (by kernel_rfl : loopsOf (Try.f68.body.getD .skip) = []) trivial b hb) (R := (YI)) (T := fun (d : aden P_l_heldChan) => T_l_heldChan d.1 d.2.1) e_l_heldChan
def P_l_heldCandS : List (Bool × List Sh) := [(false, [.sl 201 h_5]), (false, [.int .i64])]
def O_l_heldCandS (r : (YI)) : List RV × List RV := ([rv (false, [.int .i64]) r], [])
def C_l_heldCandS : Fns := [(52, .plain, F_l_heldByteS)]
def F_l_heldCandS : Fun1 := funV P_l_heldCandS (fun d => (T_l_heldCandS d.1 d.2.1).val) O_l_heldCandS
def K_l_heldCandS_2 : Sk := ⟨[(0, .v false [(.sl 201 h_5, .ro)]), (1, .v false [(.int .i64, .nil)]), (5, .v false [(.int .i64, .nil)])], [], []⟩
def X_l_heldCandS_2 : List (Ex × Sk) := [(.ret, ⟨[(4, .v false [(.int .i64, .nil)])], [], []⟩), ((.exit 0), ⟨[(1, .v false [(.int .i64, .nil)])], [], []⟩)]
def Q_l_heldCandS : Loops := fun i st => cond (Nat.beq i 2) (lam K_l_heldCandS_2 3000000 X_l_heldCandS_2 B_l_heldCandS_2 st) <| .fail
theorem lp_l_heldCandS_2 : ∀ d, bod ⟨lookT tys, ctrOf C_l_heldCandS, kindOf C_l_heldCandS, 3, 4⟩ 0 Try.f155.ntmps Q_l_heldCandS (nthLoop Try.f155 0) K_l_heldCandS_2 3000000 X_l_heldCandS_2 d = B_l_heldCandS_2 d := fun d => by kernel_rfl
theorem lo_l_heldCandS_2 (cx : Cx) (hp : cx.pin.length ≤ 0) : LoopOk Try.prog cx Try.f155.ntmps Q_l_heldCandS (nthLoop Try.f155 0) := loop_of (cfgOk_of mixed tys_ok (show FnsOk Try.prog C_l_heldCandS from ⟨fn_l_heldByteS, trivial⟩)) hp (all_of (by kernel_rfl : loopsOf (nthLoop Try.f155 0) = []) trivial) (by kernel_rfl) lp_l_heldCandS_2
theorem e_l_heldCandS : ∀ d, pcall ⟨lookT tys, ctrOf C_l_heldCandS, kindOf C_l_heldCandS, 3, 4⟩ 0 Q_l_heldCandS Try.f155 .plain (mkA P_l_heldCandS d) = (T_l_heldCandS d.1 d.2.1).run fun r => some (O_l_heldCandS r) := fun d => by kernel_rfl
theorem fn_l_heldCandS : Fn Try.prog 155 .plain F_l_heldCandS := fn_of (cfgOk_of mixed tys_ok (show FnsOk Try.prog C_l_heldCandS from ⟨fn_l_heldByteS, trivial⟩)) Try.func155 (by kernel_rfl) (by kernel_rfl) (fun cx b hp hb => all_of (by kernel_rfl : loopsOf (Try.f155.body.getD .skip) = [nthLoop Try.f155 0]) ⟨lo_l_heldCandS_2 cx hp, trivial⟩ b hb) (R := (YI)) (T := fun (d : aden P_l_heldCandS) => T_l_heldCandS d.1 d.2.1) e_l_heldCandS
def P_l_heldPaths : List (Bool × List Sh) := [(true, h_9), (false, [.int .i64])]
def O_l_heldPaths (r : (YI)) : List RV × List RV := ([rv (false, [.int .i64]) r], [])
def C_l_heldPaths : Fns := [(155, .plain, F_l_heldCandS)]
def F_l_heldPaths : Fun1 := funV P_l_heldPaths (fun d => (T_l_heldPaths d.1 d.2.1).val) O_l_heldPaths
def Q_l_heldPaths : Loops := fun _ _ => .fail
theorem e_l_heldPaths : ∀ d, pcall ⟨lookT tys, ctrOf C_l_heldPaths, kindOf C_l_heldPaths, 3, 4⟩ 0 Q_l_heldPaths Try.f69 .plain (mkA P_l_heldPaths d) = (T_l_heldPaths d.1 d.2.1).run fun r => some (O_l_heldPaths r) := fun d => by kernel_rfl
theorem fn_l_heldPaths : Fn Try.prog 69 .plain F_l_heldPaths := fn_of (cfgOk_of mixed tys_ok (show FnsOk Try.prog C_l_heldPaths from ⟨fn_l_heldCandS, trivial⟩)) Try.func69 (by kernel_rfl) (by kernel_rfl) (fun cx b hp hb => all_of (by kernel_rfl : loopsOf (Try.f69.body.getD .skip) = []) trivial b hb) (R := (YI)) (T := fun (d : aden P_l_heldPaths) => T_l_heldPaths d.1 d.2.1) e_l_heldPaths
def P_l_heldSess : List (Bool × List Sh) := [(true, h_14), (false, [.int .i64])]
def O_l_heldSess (r : (YI)) : List RV × List RV := ([rv (false, [.int .i64]) r], [])
def C_l_heldSess : Fns := [(52, .plain, F_l_heldByteS), (68, .plain, F_l_heldChan), (69, .plain, F_l_heldPaths)]
def F_l_heldSess : Fun1 := funV P_l_heldSess (fun d => (T_l_heldSess d.1 d.2.1).val) O_l_heldSess
def Q_l_heldSess : Loops := fun _ _ => .fail
theorem e_l_heldSess : ∀ d, pcall ⟨lookT tys, ctrOf C_l_heldSess, kindOf C_l_heldSess, 3, 4⟩ 0 Q_l_heldSess Try.f15 .plain (mkA P_l_heldSess d) = (T_l_heldSess d.1 d.2.1).run fun r => some (O_l_heldSess r) := fun d => by kernel_rfl
theorem fn_l_heldSess : Fn Try.prog 15 .plain F_l_heldSess := fn_of (cfgOk_of mixed tys_ok (show FnsOk Try.prog C_l_heldSess from ⟨fn_l_heldByteS, fn_l_heldChan, fn_l_heldPaths, trivial⟩)) Try.func15 (by kernel_rfl) (by kernel_rfl) (fun cx b hp hb => all_of (by kernel_rfl : loopsOf (Try.f15.body.getD .skip) = []) trivial b hb) (R := (YI)) (T := fun (d : aden P_l_heldSess) => T_l_heldSess d.1 d.2.1) e_l_heldSess
def P_l_FnExactBury : List (Bool × List Sh) := [(true, h_13)]
def O_l_FnExactBury (r : (Bool × Unit)) : List RV × List RV := ([rv (false, [.bool]) r], [])
def C_l_FnExactBury : Fns := [(9, .plain, F_l_szSess), (11, .plain, F_l_toSess), (10, .plain, F_s_Bury), (12, .plain, F_i_Bury), (13, .plain, F_l_eqSess), (14, (.lend [1]), F_l_markSess), (15, .plain, F_l_heldSess)]
def F_l_FnExactBury : Fun1 := funV P_l_FnExactBury (fun d => (T_l_FnExactBury d.1).val) O_l_FnExactBury
def Q_l_FnExactBury : Loops := fun _ _ => .fail
theorem e_l_FnExactBury : ∀ d, pcall ⟨lookT tys, ctrOf C_l_FnExactBury, kindOf C_l_FnExactBury, 3, 4⟩ 0 Q_l_FnExactBury Try.f3 .plain (mkA P_l_FnExactBury d) = (T_l_FnExactBury d.1).run fun r => some (O_l_FnExactBury r) := fun d => by kernel_rfl
theorem fn_l_FnExactBury : Fn Try.prog 3 .plain F_l_FnExactBury := fn_of (cfgOk_of mixed tys_ok (show FnsOk Try.prog C_l_FnExactBury from ⟨fn_l_szSess, fn_l_toSess, fn_s_Bury, fn_i_Bury, fn_l_eqSess, fn_l_markSess, fn_l_heldSess, trivial⟩)) Try.func3 (by kernel_rfl) (by kernel_rfl) (fun cx b hp hb => all_of (by kernel_rfl : loopsOf (Try.f3.body.getD .skip) = []) trivial b hb) (R := (Bool × Unit)) (T := fun (d : aden P_l_FnExactBury) => T_l_FnExactBury d.1) e_l_FnExactBury
def P_l_szByteSS : List (Bool × List Sh) := [(false, [.sl 22 [.sl 5 [.int .u8]]]), (false, [.int .i64])]
def O_l_szByteSS (r : (YI)) : List RV × List RV := ([rv (false, [.int .i64]) r], [])
def C_l_szByteSS : Fns := [(53, .plain, F_l_szByteS)]
def F_l_szByteSS : Fun1 := funV P_l_szByteSS (fun d => (T_l_szByteSS d.1 d.2.1).val) O_l_szByteSS
def K_l_szByteSS_5 : Sk := ⟨[(0, .v false [(.sl 22 [.sl 5 [.int .u8]], .ro)]), (1, .v false [(.int .i64, .nil)]), (5, .v false [(.int .i64, .nil)])], [], []⟩
def X_l_szByteSS_5 : List (Ex × Sk) := [(.ret, ⟨[(4, .v false [(.int .i64, .nil)])], [], []⟩), ((.exit 0), ⟨[(1, .v false [(.int .i64, .nil)])], [], []⟩)]
def Q_l_szByteSS : Loops := fun i st => cond (Nat.beq i 5) (lam K_l_szByteSS_5 6000000 X_l_szByteSS_5 B_l_szByteSS_5 st) <| .fail
theorem lp_l_szByteSS_5 : ∀ d, bod ⟨lookT tys, ctrOf C_l_szByteSS, kindOf C_l_szByteSS, 3, 4⟩ 0 Try.f38.ntmps Q_l_szByteSS (nthLoop Try.f38 0) K_l_szByteSS_5 6000000 X_l_szByteSS_5 d = B_l_szByteSS_5 d := fun d => by kernel_rfl
theorem lo_l_szByteSS_5 (cx : Cx) (hp : cx.pin.length ≤ 0) : LoopOk Try.prog cx Try.f38.ntmps Q_l_szByteSS (nthLoop Try.f38 0) := loop_of (cfgOk_of mixed tys_ok (show FnsOk Try.prog C_l_szByteSS from ⟨fn_l_szByteS, trivial⟩)) hp (all_of (by kernel_rfl : loopsOf (nthLoop Try.f38 0) = []) trivial) (by kernel_rfl) lp_l_szByteSS_5
theorem e_l_szByteSS : ∀ d, pcall ⟨lookT tys, ctrOf C_l_szByteSS, kindOf C_l_szByteSS, 3, 4⟩ 0 Q_l_szByteSS Try.f38 .plain (mkA P_l_szByteSS d) = (T_l_szByteSS d.1 d.2.1).run fun r => some (O_l_szByteSS r) := fun d => by kernel_rfl
theorem fn_l_szByteSS : Fn Try.prog 38 .plain F_l_szByteSS := fn_of (cfgOk_of mixed tys_ok (show FnsOk Try.prog C_l_szByteSS from ⟨fn_l_szByteS, trivial⟩)) Try.func38 (by kernel_rfl) (by kernel_rfl) (fun cx b hp hb => all_of (by kernel_rfl : loopsOf (Try.f38.body.getD .skip) = [nthLoop Try.f38 0]) ⟨lo_l_szByteSS_5 cx hp, trivial⟩ b hb) (R := (YI)) (T := fun (d : aden P_l_szByteSS) => T_l_szByteSS d.1 d.2.1) e_l_szByteSS
def P_l_szJar : List (Bool × List Sh) := [(true, [.sl 5 [.int .u8]]), (false, [.int .i64])]
def O_l_szJar (r : (YI)) : List RV × List RV := ([rv (false, [.int .i64]) r], [])
def C_l_szJar : Fns := [(53, .plain, F_l_szByteS)]
def F_l_szJar : Fun1 := funV P_l_szJar (fun d => (T_l_szJar d.1 d.2.1).val) O_l_szJar
def Q_l_szJar : Loops := fun _ _ => .fail
theorem e_l_szJar : ∀ d, pcall ⟨lookT tys, ctrOf C_l_szJar, kindOf C_l_szJar, 3, 4⟩ 0 Q_l_szJar Try.f76 .plain (mkA P_l_szJar d) = (T_l_szJar d.1 d.2.1).run fun r => some (O_l_szJar r) := fun d => by kernel_rfl
theorem fn_l_szJar : Fn Try.prog 76 .plain F_l_szJar := fn_of (cfgOk_of mixed tys_ok (show FnsOk Try.prog C_l_szJar from ⟨fn_l_szByteS, trivial⟩)) Try.func76 (by kernel_rfl) (by kernel_rfl) (fun cx b hp hb => all_of (by kernel_rfl : loopsOf (Try.f76.body.getD .skip) = []) trivial b hb) (R := (YI)) (T := fun (d : aden P_l_szJar) => T_l_szJar d.1 d.2.1) e_l_szJar
def P_l_szDice : List (Bool × List Sh) := [(true, [.sl 5 [.int .u8], .int .i64]), (false, [.int .i64])]
def O_l_szDice (r : (YI)) : List RV × List RV := ([rv (false, [.int .i64]) r], [])
def C_l_szDice : Fns := [(53, .plain, F_l_szByteS)]
def F_l_szDice : Fun1 := funV P_l_szDice (fun d => (T_l_szDice d.1 d.2.1).val) O_l_szDice
def Q_l_szDice : Loops := fun _ _ => .fail
theorem e_l_szDice : ∀ d, pcall ⟨lookT tys, ctrOf C_l_szDice, kindOf C_l_szDice, 3, 4⟩ 0 Q_l_szDice Try.f77 .plain (mkA P_l_szDice d) = (T_l_szDice d.1 d.2.1).run fun r => some (O_l_szDice r) := fun d => by kernel_rfl
theorem fn_l_szDice : Fn Try.prog 77 .plain F_l_szDice := fn_of (cfgOk_of mixed tys_ok (show FnsOk Try.prog C_l_szDice from ⟨fn_l_szByteS, trivial⟩)) Try.func77 (by kernel_rfl) (by kernel_rfl) (fun cx b hp hb => all_of (by kernel_rfl : loopsOf (Try.f77.body.getD .skip) = []) trivial b hb) (R := (YI)) (T := fun (d : aden P_l_szDice) => T_l_szDice d.1 d.2.1) e_l_szDice
def P_l_szSessS : List (Bool × List Sh) := [(false, [.sl 36 h_13]), (false, [.int .i64])]
def O_l_szSessS (r : (YI)) : List RV × List RV := ([rv (false, [.int .i64]) r], [])
def C_l_szSessS : Fns := [(9, .plain, F_l_szSess)]
def F_l_szSessS : Fun1 := funV P_l_szSessS (fun d => (T_l_szSessS d.1 d.2.1).val) O_l_szSessS
def K_l_szSessS_5 : Sk := ⟨[(0, .v false [(.sl 36 h_13, .ro)]), (1, .v false [(.int .i64, .nil)]), (5, .v false [(.int .i64, .nil)])], [], []⟩
def X_l_szSessS_5 : List (Ex × Sk) := [(.ret, ⟨[(4, .v false [(.int .i64, .nil)])], [], []⟩), ((.exit 0), ⟨[(1, .v false [(.int .i64, .nil)])], [], []⟩)]
def Q_l_szSessS : Loops := fun i st => cond (Nat.beq i 5) (lam K_l_szSessS_5 6000000 X_l_szSessS_5 B_l_szSessS_5 st) <| .fail
theorem lp_l_szSessS_5 : ∀ d, bod ⟨lookT tys, ctrOf C_l_szSessS, kindOf C_l_szSessS, 3, 4⟩ 0 Try.f158.ntmps Q_l_szSessS (nthLoop Try.f158 0) K_l_szSessS_5 6000000 X_l_szSessS_5 d = B_l_szSessS_5 d := fun d => by kernel_rfl
theorem lo_l_szSessS_5 (cx : Cx) (hp : cx.pin.length ≤ 0) : LoopOk Try.prog cx Try.f158.ntmps Q_l_szSessS (nthLoop Try.f158 0) := loop_of (cfgOk_of mixed tys_ok (show FnsOk Try.prog C_l_szSessS from ⟨fn_l_szSess, trivial⟩)) hp (all_of (by kernel_rfl : loopsOf (nthLoop Try.f158 0) = []) trivial) (by kernel_rfl) lp_l_szSessS_5
theorem e_l_szSessS : ∀ d, pcall ⟨lookT tys, ctrOf C_l_szSessS, kindOf C_l_szSessS, 3, 4⟩ 0 Q_l_szSessS Try.f158 .plain (mkA P_l_szSessS d) = (T_l_szSessS d.1 d.2.1).run fun r => some (O_l_szSessS r) := fun d => by kernel_rfl
theorem fn_l_szSessS : Fn Try.prog 158 .plain F_l_szSessS := fn_of (cfgOk_of mixed tys_ok (show FnsOk Try.prog C_l_szSessS from ⟨fn_l_szSess, trivial⟩)) Try.func158 (by kernel_rfl) (by kernel_rfl) (fun cx b hp hb => all_of (by kernel_rfl : loopsOf (Try.f158.body.getD .skip) = [nthLoop Try.f158 0]) ⟨lo_l_szSessS_5 cx hp, trivial⟩ b hb) (R := (YI)) (T := fun (d : aden P_l_szSessS) => T_l_szSessS d.1 d.2.1) e_l_szSessS
def P_l_szTab : List (Bool × List Sh) := [(true, [.int .i64, .sl 36 h_13]), (false, [.int .i64])]
def O_l_szTab (r : (YI)) : List RV × List RV := ([rv (false, [.int .i64]) r], [])
def C_l_szTab : Fns := [(158, .plain, F_l_szSessS)]
def F_l_szTab : Fun1 := funV P_l_szTab (fun d => (T_l_szTab d.1 d.2.1).val) O_l_szTab
def Q_l_szTab : Loops := fun _ _ => .fail
theorem e_l_szTab : ∀ d, pcall ⟨lookT tys, ctrOf C_l_szTab, kindOf C_l_szTab, 3, 4⟩ 0 Q_l_szTab Try.f78 .plain (mkA P_l_szTab d) = (T_l_szTab d.1 d.2.1).run fun r => some (O_l_szTab r) := fun d => by kernel_rfl
theorem fn_l_szTab : Fn Try.prog 78 .plain F_l_szTab := fn_of (cfgOk_of mixed tys_ok (show FnsOk Try.prog C_l_szTab from ⟨fn_l_szSessS, trivial⟩)) Try.func78 (by kernel_rfl) (by kernel_rfl) (fun cx b hp hb => all_of (by kernel_rfl : loopsOf (Try.f78.body.getD .skip) = []) trivial b hb) (R := (YI)) (T := fun (d : aden P_l_szTab) => T_l_szTab d.1 d.2.1) e_l_szTab
def P_l_szCreditS : List (Bool × List Sh) := [(false, [.sl 211 h_2]), (false, [.int .i64])]
def O_l_szCreditS (r : (YI)) : List RV × List RV := ([rv (false, [.int .i64]) r], [])
def C_l_szCreditS : Fns := []
def F_l_szCreditS : Fun1 := funV P_l_szCreditS (fun d => (T_l_szCreditS d.1 d.2.1).val) O_l_szCreditS
def Q_l_szCreditS : Loops := fun _ _ => .fail
theorem e_l_szCreditS : ∀ d, pcall ⟨lookT tys, ctrOf C_l_szCreditS, kindOf C_l_szCreditS, 3, 4⟩ 0 Q_l_szCreditS Try.f79 .plain (mkA P_l_szCreditS d) = (T_l_szCreditS d.1 d.2.1).run fun r => some (O_l_szCreditS r) := fun d => by kernel_rfl
theorem fn_l_szCreditS : Fn Try.prog 79 .plain F_l_szCreditS := fn_of (cfgOk_of mixed tys_ok (show FnsOk Try.prog C_l_szCreditS from trivial)) Try.func79 (by kernel_rfl) (by kernel_rfl) (fun cx b hp hb => all_of (by kernel_rfl : loopsOf (Try.f79.body.getD .skip) = []) trivial b hb) (R := (YI)) (T := fun (d : aden P_l_szCreditS) => T_l_szCreditS d.1 d.2.1) e_l_szCreditS
def P_l_szServer : List (Bool × List Sh) := [(true, h_15), (false, [.int .i64])]
def O_l_szServer (r : (YI)) : List RV × List RV := ([rv (false, [.int .i64]) r], [])
def C_l_szServer : Fns := [(38, .plain, F_l_szByteSS), (76, .plain, F_l_szJar), (77, .plain, F_l_szDice), (78, .plain, F_l_szTab), (79, .plain, F_l_szCreditS)]
def F_l_szServer : Fun1 := funV P_l_szServer (fun d => (T_l_szServer d.1 d.2.1).val) O_l_szServer
def Q_l_szServer : Loops := fun _ _ => .fail
theorem e_l_szServer : ∀ d, pcall ⟨lookT tys, ctrOf C_l_szServer, kindOf C_l_szServer, 3, 4⟩ 0 Q_l_szServer Try.f18 .plain (mkA P_l_szServer d) = (T_l_szServer d.1 d.2.1).run fun r => some (O_l_szServer r) := fun d => by kernel_rfl
theorem fn_l_szServer : Fn Try.prog 18 .plain F_l_szServer := fn_of (cfgOk_of mixed tys_ok (show FnsOk Try.prog C_l_szServer from ⟨fn_l_szByteSS, fn_l_szJar, fn_l_szDice, fn_l_szTab, fn_l_szCreditS, trivial⟩)) Try.func18 (by kernel_rfl) (by kernel_rfl) (fun cx b hp hb => all_of (by kernel_rfl : loopsOf (Try.f18.body.getD .skip) = []) trivial b hb) (R := (YI)) (T := fun (d : aden P_l_szServer) => T_l_szServer d.1 d.2.1) e_l_szServer
def P_l_toByteSS : List (Bool × List Sh) := [(false, [.sl 22 [.sl 5 [.int .u8]]])]
def O_l_toByteSS (r : ((List YBs) × Unit)) : List RV × List RV := ([rv (false, [.sl 22 [.sl 5 [.int .u8]]]) r], [])
def C_l_toByteSS : Fns := [(58, .plain, F_l_toByteS)]
def F_l_toByteSS : Fun1 := funV P_l_toByteSS (fun d => (T_l_toByteSS d.1).val) O_l_toByteSS
def K_l_toByteSS_3 : Sk := ⟨[(0, .v false [(.sl 22 [.sl 5 [.int .u8]], .ro)]), (3, .v false [(.sl 22 [.sl 5 [.int .u8]], (.own 4000000))]), (4, .v false [(.int .i64, .nil)])], [], [4000000]⟩
def X_l_toByteSS_3 : List (Ex × Sk) := [((.exit 0), ⟨[(3, .v false [(.sl 22 [.sl 5 [.int .u8]], (.own 4000000))])], [], [4000000]⟩)]
def Q_l_toByteSS : Loops := fun i st => cond (Nat.beq i 3) (lam K_l_toByteSS_3 4000000 X_l_toByteSS_3 B_l_toByteSS_3 st) <| .fail
theorem lp_l_toByteSS_3 : ∀ d, bod ⟨lookT tys, ctrOf C_l_toByteSS, kindOf C_l_toByteSS, 3, 4⟩ 0 Try.f42.ntmps Q_l_toByteSS (nthLoop Try.f42 0) K_l_toByteSS_3 4000000 X_l_toByteSS_3 d = B_l_toByteSS_3 d := fun d => by kernel_rfl
theorem lo_l_toByteSS_3 (cx : Cx) (hp : cx.pin.length ≤ 0) : LoopOk Try.prog cx Try.f42.ntmps Q_l_toByteSS (nthLoop Try.f42 0) := loop_of (cfgOk_of mixed tys_ok (show FnsOk Try.prog C_l_toByteSS from ⟨fn_l_toByteS, trivial⟩)) hp (all_of (by kernel_rfl : loopsOf (nthLoop Try.f42 0) = []) trivial) (by kernel_rfl) lp_l_toByteSS_3
theorem e_l_toByteSS : ∀ d, pcall ⟨lookT tys, ctrOf C_l_toByteSS, kindOf C_l_toByteSS, 3, 4⟩ 0 Q_l_toByteSS Try.f42 .plain (mkA P_l_toByteSS d) = (T_l_toByteSS d.1).run fun r => some (O_l_toByteSS r) := fun d => by kernel_rfl
theorem fn_l_toByteSS : Fn Try.prog 42 .plain F_l_toByteSS := fn_of (cfgOk_of mixed tys_ok (show FnsOk Try.prog C_l_toByteSS from ⟨fn_l_toByteS, trivial⟩)) Try.func42 (by kernel_rfl) (by kernel_rfl) (fun cx b hp hb => all_of (by kernel_rfl : loopsOf (Try.f42.body.getD .skip) = [nthLoop Try.f42 0]) ⟨lo_l_toByteSS_3 cx hp, trivial⟩ b hb) (R := ((List YBs) × Unit)) (T := fun (d : aden P_l_toByteSS) => T_l_toByteSS d.1) e_l_toByteSS
def P_l_toJar : List (Bool × List Sh) := [(true, [.sl 5 [.int .u8]])]
def O_l_toJar (r : (YBs)) : List RV × List RV := ([rv (true, [.sl 5 [.int .u8]]) r], [])
def C_l_toJar : Fns := [(58, .plain, F_l_toByteS)]
def F_l_toJar : Fun1 := funV P_l_toJar (fun d => (T_l_toJar d.1).val) O_l_toJar
def Q_l_toJar : Loops := fun _ _ => .fail
theorem e_l_toJar : ∀ d, pcall ⟨lookT tys, ctrOf C_l_toJar, kindOf C_l_toJar, 3, 4⟩ 0 Q_l_toJar Try.f85 .plain (mkA P_l_toJar d) = (T_l_toJar d.1).run fun r => some (O_l_toJar r) := fun d => by kernel_rfl
theorem fn_l_toJar : Fn Try.prog 85 .plain F_l_toJar := fn_of (cfgOk_of mixed tys_ok (show FnsOk Try.prog C_l_toJar from ⟨fn_l_toByteS, trivial⟩)) Try.func85 (by kernel_rfl) (by kernel_rfl) (fun cx b hp hb => all_of (by kernel_rfl : loopsOf (Try.f85.body.getD .skip) = []) trivial b hb) (R := (YBs)) (T := fun (d : aden P_l_toJar) => T_l_toJar d.1) e_l_toJar
def P_l_toDice : List (Bool × List Sh) := [(true, [.sl 5 [.int .u8], .int .i64])]
def O_l_toDice (r : (YDice)) : List RV × List RV := ([rv (true, [.sl 5 [.int .u8], .int .i64]) r], [])
def C_l_toDice : Fns := [(58, .plain, F_l_toByteS)]
def F_l_toDice : Fun1 := funV P_l_toDice (fun d => (T_l_toDice d.1).val) O_l_toDice
def Q_l_toDice : Loops := fun _ _ => .fail
theorem e_l_toDice : ∀ d, pcall ⟨lookT tys, ctrOf C_l_toDice, kindOf C_l_toDice, 3, 4⟩ 0 Q_l_toDice Try.f86 .plain (mkA P_l_toDice d) = (T_l_toDice d.1).run fun r => some (O_l_toDice r) := fun d => by kernel_rfl
theorem fn_l_toDice : Fn Try.prog 86 .plain F_l_toDice := fn_of (cfgOk_of mixed tys_ok (show FnsOk Try.prog C_l_toDice from ⟨fn_l_toByteS, trivial⟩)) Try.func86 (by kernel_rfl) (by kernel_rfl) (fun cx b hp hb => all_of (by kernel_rfl : loopsOf (Try.f86.body.getD .skip) = []) trivial b hb) (R := (YDice)) (T := fun (d : aden P_l_toDice) => T_l_toDice d.1) e_l_toDice
def P_l_toSessS : List (Bool × List Sh) := [(false, [.sl 36 h_13])]
def O_l_toSessS (r : ((List YSess) × Unit)) : List RV × List RV := ([rv (false, [.sl 48 h_14]) r], [])
def C_l_toSessS : Fns := [(11, .plain, F_l_toSess)]
def F_l_toSessS : Fun1 := funV P_l_toSessS (fun d => (T_l_toSessS d.1).val) O_l_toSessS
def K_l_toSessS_3 : Sk := ⟨[(0, .v false [(.sl 36 h_13, .ro)]), (3, .v false [(.sl 48 h_14, (.own 4000000))]), (4, .v false [(.int .i64, .nil)])], [], [4000000]⟩
def X_l_toSessS_3 : List (Ex × Sk) := [((.exit 0), ⟨[(3, .v false [(.sl 48 h_14, (.own 4000000))])], [], [4000000]⟩)]
def Q_l_toSessS : Loops := fun i st => cond (Nat.beq i 3) (lam K_l_toSessS_3 4000000 X_l_toSessS_3 B_l_toSessS_3 st) <| .fail
theorem lp_l_toSessS_3 : ∀ d, bod ⟨lookT tys, ctrOf C_l_toSessS, kindOf C_l_toSessS, 3, 4⟩ 0 Try.f161.ntmps Q_l_toSessS (nthLoop Try.f161 0) K_l_toSessS_3 4000000 X_l_toSessS_3 d = B_l_toSessS_3 d := fun d => by kernel_rfl
theorem lo_l_toSessS_3 (cx : Cx) (hp : cx.pin.length ≤ 0) : LoopOk Try.prog cx Try.f161.ntmps Q_l_toSessS (nthLoop Try.f161 0) := loop_of (cfgOk_of mixed tys_ok (show FnsOk Try.prog C_l_toSessS from ⟨fn_l_toSess, trivial⟩)) hp (all_of (by kernel_rfl : loopsOf (nthLoop Try.f161 0) = []) trivial) (by kernel_rfl) lp_l_toSessS_3
theorem e_l_toSessS : ∀ d, pcall ⟨lookT tys, ctrOf C_l_toSessS, kindOf C_l_toSessS, 3, 4⟩ 0 Q_l_toSessS Try.f161 .plain (mkA P_l_toSessS d) = (T_l_toSessS d.1).run fun r => some (O_l_toSessS r) := fun d => by kernel_rfl
theorem fn_l_toSessS : Fn Try.prog 161 .plain F_l_toSessS := fn_of (cfgOk_of mixed tys_ok (show FnsOk Try.prog C_l_toSessS from ⟨fn_l_toSess, trivial⟩)) Try.func161 (by kernel_rfl) (by kernel_rfl) (fun cx b hp hb => all_of (by kernel_rfl : loopsOf (Try.f161.body.getD .skip) = [nthLoop Try.f161 0]) ⟨lo_l_toSessS_3 cx hp, trivial⟩ b hb) (R := ((List YSess) × Unit)) (T := fun (d : aden P_l_toSessS) => T_l_toSessS d.1) e_l_toSessS
def P_l_toTab : List (Bool × List Sh) := [(true, [.int .i64, .sl 36 h_13])]
def O_l_toTab (r : (YTab)) : List RV × List RV := ([rv (true, [.int .i64, .sl 48 h_14]) r], [])
def C_l_toTab : Fns := [(161, .plain, F_l_toSessS)]
def F_l_toTab : Fun1 := funV P_l_toTab (fun d => (T_l_toTab d.1).val) O_l_toTab
def Q_l_toTab : Loops := fun _ _ => .fail
theorem e_l_toTab : ∀ d, pcall ⟨lookT tys, ctrOf C_l_toTab, kindOf C_l_toTab, 3, 4⟩ 0 Q_l_toTab Try.f87 .plain (mkA P_l_toTab d) = (T_l_toTab d.1).run fun r => some (O_l_toTab r) := fun d => by kernel_rfl
theorem fn_l_toTab : Fn Try.prog 87 .plain F_l_toTab := fn_of (cfgOk_of mixed tys_ok (show FnsOk Try.prog C_l_toTab from ⟨fn_l_toSessS, trivial⟩)) Try.func87 (by kernel_rfl) (by kernel_rfl) (fun cx b hp hb => all_of (by kernel_rfl : loopsOf (Try.f87.body.getD .skip) = []) trivial b hb) (R := (YTab)) (T := fun (d : aden P_l_toTab) => T_l_toTab d.1) e_l_toTab
def P_l_toCredit : List (Bool × List Sh) := [(true, h_2)]
def O_l_toCredit (r : (YCredit)) : List RV × List RV := ([rv (true, h_2) r], [])
def C_l_toCredit : Fns := [(34, .plain, F_l_toAddr)]
def F_l_toCredit : Fun1 := funV P_l_toCredit (fun d => (T_l_toCredit d.1).val) O_l_toCredit
def Q_l_toCredit : Loops := fun _ _ => .fail
theorem e_l_toCredit : ∀ d, pcall ⟨lookT tys, ctrOf C_l_toCredit, kindOf C_l_toCredit, 3, 4⟩ 0 Q_l_toCredit Try.f162 .plain (mkA P_l_toCredit d) = (T_l_toCredit d.1).run fun r => some (O_l_toCredit r) := fun d => by kernel_rfl
theorem fn_l_toCredit : Fn Try.prog 162 .plain F_l_toCredit := fn_of (cfgOk_of mixed tys_ok (show FnsOk Try.prog C_l_toCredit from ⟨fn_l_toAddr, trivial⟩)) Try.func162 (by kernel_rfl) (by kernel_rfl) (fun cx b hp hb => all_of (by kernel_rfl : loopsOf (Try.f162.body.getD .skip) = []) trivial b hb) (R := (YCredit)) (T := fun (d : aden P_l_toCredit) => T_l_toCredit d.1) e_l_toCredit
def P_l_toCreditS : List (Bool × List Sh) := [(false, [.sl 211 h_2])]
def O_l_toCreditS (r : ((List YCredit) × Unit)) : List RV × List RV := ([rv (false, [.sl 207 h_2]) r], [])
def C_l_toCreditS : Fns := [(162, .plain, F_l_toCredit)]
def F_l_toCreditS : Fun1 := funV P_l_toCreditS (fun d => (T_l_toCreditS d.1).val) O_l_toCreditS
def K_l_toCreditS_3 : Sk := ⟨[(0, .v false [(.sl 211 h_2, .ro)]), (3, .v false [(.sl 207 h_2, (.own 4000000))]), (4, .v false [(.int .i64, .nil)])], [], [4000000]⟩
def X_l_toCreditS_3 : List (Ex × Sk) := [((.exit 0), ⟨[(3, .v false [(.sl 207 h_2, (.own 4000000))])], [], [4000000]⟩)]
def Q_l_toCreditS : Loops := fun i st => cond (Nat.beq i 3) (lam K_l_toCreditS_3 4000000 X_l_toCreditS_3 B_l_toCreditS_3 st) <| .fail
theorem lp_l_toCreditS_3 : ∀ d, bod ⟨lookT tys, ctrOf C_l_toCreditS, kindOf C_l_toCreditS, 3, 4⟩ 0 Try.f88.ntmps Q_l_toCreditS (nthLoop Try.f88 0) K_l_toCreditS_3 4000000 X_l_toCreditS_3 d = B_l_toCreditS_3 d := fun d => by kernel_rfl
theorem lo_l_toCreditS_3 (cx : Cx) (hp : cx.pin.length ≤ 0) : LoopOk Try.prog cx Try.f88.ntmps Q_l_toCreditS (nthLoop Try.f88 0) := loop_of (cfgOk_of mixed tys_ok (show FnsOk Try.prog C_l_toCreditS from ⟨fn_l_toCredit, trivial⟩)) hp (all_of (by kernel_rfl : loopsOf (nthLoop Try.f88 0) = []) trivial) (by kernel_rfl) lp_l_toCreditS_3
theorem e_l_toCreditS : ∀ d, pcall ⟨lookT tys, ctrOf C_l_toCreditS, kindOf C_l_toCreditS, 3, 4⟩ 0 Q_l_toCreditS Try.f88 .plain (mkA P_l_toCreditS d) = (T_l_toCreditS d.1).run fun r => some (O_l_toCreditS r) := fun d => by kernel_rfl
theorem fn_l_toCreditS : Fn Try.prog 88 .plain F_l_toCreditS := fn_of (cfgOk_of mixed tys_ok (show FnsOk Try.prog C_l_toCreditS from ⟨fn_l_toCredit, trivial⟩)) Try.func88 (by kernel_rfl) (by kernel_rfl) (fun cx b hp hb => all_of (by kernel_rfl : loopsOf (Try.f88.body.getD .skip) = [nthLoop Try.f88 0]) ⟨lo_l_toCreditS_3 cx hp, trivial⟩ b hb) (R := ((List YCredit) × Unit)) (T := fun (d : aden P_l_toCreditS) => T_l_toCreditS d.1) e_l_toCreditS
def P_l_toServer : List (Bool × List Sh) := [(true, h_15)]
def O_l_toServer (r : (YServer)) : List RV × List RV := ([rv (true, h_16) r], [])
def C_l_toServer : Fns := [(42, .plain, F_l_toByteSS), (85, .plain, F_l_toJar), (86, .plain, F_l_toDice), (87, .plain, F_l_toTab), (88, .plain, F_l_toCreditS)]
def F_l_toServer : Fun1 := funV P_l_toServer (fun d => (T_l_toServer d.1).val) O_l_toServer
def Q_l_toServer : Loops := fun _ _ => .fail
theorem e_l_toServer : ∀ d, pcall ⟨lookT tys, ctrOf C_l_toServer, kindOf C_l_toServer, 3, 4⟩ 0 Q_l_toServer Try.f20 .plain (mkA P_l_toServer d) = (T_l_toServer d.1).run fun r => some (O_l_toServer r) := fun d => by kernel_rfl
theorem fn_l_toServer : Fn Try.prog 20 .plain F_l_toServer := fn_of (cfgOk_of mixed tys_ok (show FnsOk Try.prog C_l_toServer from ⟨fn_l_toByteSS, fn_l_toJar, fn_l_toDice, fn_l_toTab, fn_l_toCreditS, trivial⟩)) Try.func20 (by kernel_rfl) (by kernel_rfl) (fun cx b hp hb => all_of (by kernel_rfl : loopsOf (Try.f20.body.getD .skip) = []) trivial b hb) (R := (YServer)) (T := fun (d : aden P_l_toServer) => T_l_toServer d.1) e_l_toServer
def P_s_JarOk : List (Bool × List Sh) := [(true, [.sl 5 [.int .u8]])]
def O_s_JarOk (r : (Bool × Unit)) : List RV × List RV := ([rv (false, [.bool]) r], [])
def C_s_JarOk : Fns := []
def F_s_JarOk : Fun1 := funV P_s_JarOk (fun d => (T_s_JarOk d.1).val) O_s_JarOk
def Q_s_JarOk : Loops := fun _ _ => .fail
theorem e_s_JarOk : ∀ d, pcall ⟨lookT tys, ctrOf C_s_JarOk, kindOf C_s_JarOk, 3, 4⟩ 0 Q_s_JarOk Try.f80 .plain (mkA P_s_JarOk d) = (T_s_JarOk d.1).run fun r => some (O_s_JarOk r) := fun d => by kernel_rfl
theorem fn_s_JarOk : Fn Try.prog 80 .plain F_s_JarOk := fn_of (cfgOk_of mixed tys_ok (show FnsOk Try.prog C_s_JarOk from trivial)) Try.func80 (by kernel_rfl) (by kernel_rfl) (fun cx b hp hb => all_of (by kernel_rfl : loopsOf (Try.f80.body.getD .skip) = []) trivial b hb) (R := (Bool × Unit)) (T := fun (d : aden P_s_JarOk) => T_s_JarOk d.1) e_s_JarOk
def P_s_DiceOk : List (Bool × List Sh) := [(true, [.sl 5 [.int .u8], .int .i64])]
def O_s_DiceOk (r : (Bool × Unit)) : List RV × List RV := ([rv (false, [.bool]) r], [])
def C_s_DiceOk : Fns := [(70, .plain, F_s_l1In)]
def F_s_DiceOk : Fun1 := funV P_s_DiceOk (fun d => (T_s_DiceOk d.1).val) O_s_DiceOk
def Q_s_DiceOk : Loops := fun _ _ => .fail
theorem e_s_DiceOk : ∀ d, pcall ⟨lookT tys, ctrOf C_s_DiceOk, kindOf C_s_DiceOk, 3, 4⟩ 0 Q_s_DiceOk Try.f81 .plain (mkA P_s_DiceOk d) = (T_s_DiceOk d.1).run fun r => some (O_s_DiceOk r) := fun d => by kernel_rfl
theorem fn_s_DiceOk : Fn Try.prog 81 .plain F_s_DiceOk := fn_of (cfgOk_of mixed tys_ok (show FnsOk Try.prog C_s_DiceOk from ⟨fn_s_l1In, trivial⟩)) Try.func81 (by kernel_rfl) (by kernel_rfl) (fun cx b hp hb => all_of (by kernel_rfl : loopsOf (Try.f81.body.getD .skip) = []) trivial b hb) (R := (Bool × Unit)) (T := fun (d : aden P_s_DiceOk) => T_s_DiceOk d.1) e_s_DiceOk
def P_s_Live : List (Bool × List Sh) := [(true, [.int .i64, .sl 48 h_14])]
def O_s_Live (r : (YI)) : List RV × List RV := ([rv (false, [.int .i64]) r], [])
def C_s_Live : Fns := []
def F_s_Live : Fun1 := funV P_s_Live (fun d => (T_s_Live d.1).val) O_s_Live
def K_s_Live_3 : Sk := ⟨[(1, .box 1 0), (3, .v false [(.int .i64, .nil)]), (4, .v false [(.int .i64, .nil)])], [(1, [(.int .i64, .nil), (.sl 48 h_14, .ro)])], []⟩
def X_s_Live_3 : List (Ex × Sk) := [((.exit 0), ⟨[(3, .v false [(.int .i64, .nil)])], [], []⟩)]
def Q_s_Live : Loops := fun i st => cond (Nat.beq i 3) (lam K_s_Live_3 4000000 X_s_Live_3 B_s_Live_3 st) <| .fail
theorem lp_s_Live_3 : ∀ d, bod ⟨lookT tys, ctrOf C_s_Live, kindOf C_s_Live, 3, 4⟩ 0 Try.f159.ntmps Q_s_Live (nthLoop Try.f159 0) K_s_Live_3 4000000 X_s_Live_3 d = B_s_Live_3 d := fun d => by kernel_rfl
theorem lo_s_Live_3 (cx : Cx) (hp : cx.pin.length ≤ 0) : LoopOk Try.prog cx Try.f159.ntmps Q_s_Live (nthLoop Try.f159 0) := loop_of (cfgOk_of mixed tys_ok (show FnsOk Try.prog C_s_Live from trivial)) hp (all_of (by kernel_rfl : loopsOf (nthLoop Try.f159 0) = []) trivial) (by kernel_rfl) lp_s_Live_3
theorem e_s_Live : ∀ d, pcall ⟨lookT tys, ctrOf C_s_Live, kindOf C_s_Live, 3, 4⟩ 0 Q_s_Live Try.f159 .plain (mkA P_s_Live d) = (T_s_Live d.1).run fun r => some (O_s_Live r) := fun d => by kernel_rfl
theorem fn_s_Live : Fn Try.prog 159 .plain F_s_Live := fn_of (cfgOk_of mixed tys_ok (show FnsOk Try.prog C_s_Live from trivial)) Try.func159 (by kernel_rfl) (by kernel_rfl) (fun cx b hp hb => all_of (by kernel_rfl : loopsOf (Try.f159.body.getD .skip) = [nthLoop Try.f159 0]) ⟨lo_s_Live_3 cx hp, trivial⟩ b hb) (R := (YI)) (T := fun (d : aden P_s_Live) => T_s_Live d.1) e_s_Live
def P_s_FindSn : List (Bool × List Sh) := [(true, [.int .i64, .sl 48 h_14]), (false, [.sl 5 [.int .u8]])]
def O_s_FindSn (r : (YI)) : List RV × List RV := ([rv (false, [.int .i64]) r], [])
def C_s_FindSn : Fns := [(137, .plain, F_s_l1Same)]
def F_s_FindSn : Fun1 := funV P_s_FindSn (fun d => (T_s_FindSn d.1 d.2.1).val) O_s_FindSn
def K_s_FindSn_2 : Sk := ⟨[(1, .v false [(.sl 5 [.int .u8], .ro)]), (2, .box 2 0), (5, .v false [(.int .i64, .nil)])], [(2, [(.int .i64, .nil), (.sl 48 h_14, .ro)])], []⟩
def X_s_FindSn_2 : List (Ex × Sk) := [(.ret, ⟨[(4, .v false [(.int .i64, .nil)])], [], []⟩), ((.exit 0), ⟨[], [], []⟩)]
def Q_s_FindSn : Loops := fun i st => cond (Nat.beq i 2) (lam K_s_FindSn_2 3000000 X_s_FindSn_2 B_s_FindSn_2 st) <| .fail
theorem lp_s_FindSn_2 : ∀ d, bod ⟨lookT tys, ctrOf C_s_FindSn, kindOf C_s_FindSn, 3, 4⟩ 0 Try.f160.ntmps Q_s_FindSn (nthLoop Try.f160 0) K_s_FindSn_2 3000000 X_s_FindSn_2 d = B_s_FindSn_2 d := fun d => by kernel_rfl
theorem lo_s_FindSn_2 (cx : Cx) (hp : cx.pin.length ≤ 0) : LoopOk Try.prog cx Try.f160.ntmps Q_s_FindSn (nthLoop Try.f160 0) := loop_of (cfgOk_of mixed tys_ok (show FnsOk Try.prog C_s_FindSn from ⟨fn_s_l1Same, trivial⟩)) hp (all_of (by kernel_rfl : loopsOf (nthLoop Try.f160 0) = []) trivial) (by kernel_rfl) lp_s_FindSn_2
theorem e_s_FindSn : ∀ d, pcall ⟨lookT tys, ctrOf C_s_FindSn, kindOf C_s_FindSn, 3, 4⟩ 0 Q_s_FindSn Try.f160 .plain (mkA P_s_FindSn d) = (T_s_FindSn d.1 d.2.1).run fun r => some (O_s_FindSn r) := fun d => by kernel_rfl
theorem fn_s_FindSn : Fn Try.prog 160 .plain F_s_FindSn := fn_of (cfgOk_of mixed tys_ok (show FnsOk Try.prog C_s_FindSn from ⟨fn_s_l1Same, trivial⟩)) Try.func160 (by kernel_rfl) (by kernel_rfl) (fun cx b hp hb => all_of (by kernel_rfl : loopsOf (Try.f160.body.getD .skip) = [nthLoop Try.f160 0]) ⟨lo_s_FindSn_2 cx hp, trivial⟩ b hb) (R := (YI)) (T := fun (d : aden P_s_FindSn) => T_s_FindSn d.1 d.2.1) e_s_FindSn
def P_s_TabOk : List (Bool × List Sh) := [(true, [.int .i64, .sl 48 h_14])]
def O_s_TabOk (r : (Bool × Unit)) : List RV × List RV := ([rv (false, [.bool]) r], [])
def C_s_TabOk : Fns := [(70, .plain, F_s_l1In), (159, .plain, F_s_Live), (56, .plain, F_s_SessOk), (160, .plain, F_s_FindSn)]
def F_s_TabOk : Fun1 := funV P_s_TabOk (fun d => (T_s_TabOk d.1).val) O_s_TabOk
def K_s_TabOk_4 : Sk := ⟨[(1, .box 1 0), (3, .v false [(.int .i64, .nil)])], [(1, [(.int .i64, .nil), (.sl 48 h_14, .ro)])], []⟩
def X_s_TabOk_4 : List (Ex × Sk) := [(.ret, ⟨[(2, .v false [(.bool, .nil)])], [], []⟩), ((.exit 0), ⟨[], [], []⟩)]
def Q_s_TabOk : Loops := fun i st => cond (Nat.beq i 4) (lam K_s_TabOk_4 5000000 X_s_TabOk_4 B_s_TabOk_4 st) <| .fail
theorem lp_s_TabOk_4 : ∀ d, bod ⟨lookT tys, ctrOf C_s_TabOk, kindOf C_s_TabOk, 3, 4⟩ 0 Try.f82.ntmps Q_s_TabOk (nthLoop Try.f82 0) K_s_TabOk_4 5000000 X_s_TabOk_4 d = B_s_TabOk_4 d := fun d => by kernel_rfl
theorem lo_s_TabOk_4 (cx : Cx) (hp : cx.pin.length ≤ 0) : LoopOk Try.prog cx Try.f82.ntmps Q_s_TabOk (nthLoop Try.f82 0) := loop_of (cfgOk_of mixed tys_ok (show FnsOk Try.prog C_s_TabOk from ⟨fn_s_l1In, fn_s_Live, fn_s_SessOk, fn_s_FindSn, trivial⟩)) hp (all_of (by kernel_rfl : loopsOf (nthLoop Try.f82 0) = []) trivial) (by kernel_rfl) lp_s_TabOk_4
theorem e_s_TabOk : ∀ d, pcall ⟨lookT tys, ctrOf C_s_TabOk, kindOf C_s_TabOk, 3, 4⟩ 0 Q_s_TabOk Try.f82 .plain (mkA P_s_TabOk d) = (T_s_TabOk d.1).run fun r => some (O_s_TabOk r) := fun d => by kernel_rfl
theorem fn_s_TabOk : Fn Try.prog 82 .plain F_s_TabOk := fn_of (cfgOk_of mixed tys_ok (show FnsOk Try.prog C_s_TabOk from ⟨fn_s_l1In, fn_s_Live, fn_s_SessOk, fn_s_FindSn, trivial⟩)) Try.func82 (by kernel_rfl) (by kernel_rfl) (fun cx b hp hb => all_of (by kernel_rfl : loopsOf (Try.f82.body.getD .skip) = [nthLoop Try.f82 0]) ⟨lo_s_TabOk_4 cx hp, trivial⟩ b hb) (R := (Bool × Unit)) (T := fun (d : aden P_s_TabOk) => T_s_TabOk d.1) e_s_TabOk
def P_s_CreditsOk : List (Bool × List Sh) := [(false, [.sl 207 h_2])]
def O_s_CreditsOk (r : (Bool × Unit)) : List RV × List RV := ([rv (false, [.bool]) r], [])
def C_s_CreditsOk : Fns := [(114, .plain, F_s_AddrOk), (70, .plain, F_s_l1In)]
def F_s_CreditsOk : Fun1 := funV P_s_CreditsOk (fun d => (T_s_CreditsOk d.1).val) O_s_CreditsOk
def K_s_CreditsOk_4 : Sk := ⟨[(0, .v false [(.sl 207 h_2, .ro)]), (3, .v false [(.int .i64, .nil)])], [], []⟩
def X_s_CreditsOk_4 : List (Ex × Sk) := [(.ret, ⟨[(2, .v false [(.bool, .nil)])], [], []⟩), ((.exit 0), ⟨[], [], []⟩)]
def K_s_CreditsOk_9 : Sk := ⟨[(0, .v false [(.sl 207 h_2, .ro)]), (3, .v false [(.int .i64, .nil)]), (4, .v false [(.int .i64, .nil)])], [], []⟩
def X_s_CreditsOk_9 : List (Ex × Sk) := [(.ret, ⟨[(2, .v false [(.bool, .nil)])], [], []⟩), ((.exit 2), ⟨[(0, .v false [(.sl 207 h_2, .ro)]), (3, .v false [(.int .i64, .nil)])], [], []⟩)]
def Q_s_CreditsOk : Loops := fun i st => cond (Nat.beq i 9) (lam K_s_CreditsOk_9 10000000 X_s_CreditsOk_9 B_s_CreditsOk_9 st) <| cond (Nat.beq i 4) (lam K_s_CreditsOk_4 5000000 X_s_CreditsOk_4 B_s_CreditsOk_4 st) <| .fail
theorem lp_s_CreditsOk_9 : ∀ d, bod ⟨lookT tys, ctrOf C_s_CreditsOk, kindOf C_s_CreditsOk, 3, 4⟩ 0 Try.f83.ntmps Q_s_CreditsOk (nthLoop Try.f83 1) K_s_CreditsOk_9 10000000 X_s_CreditsOk_9 d = B_s_CreditsOk_9 d := fun d => by kernel_rfl
theorem lo_s_CreditsOk_9 (cx : Cx) (hp : cx.pin.length ≤ 0) : LoopOk Try.prog cx Try.f83.ntmps Q_s_CreditsOk (nthLoop Try.f83 1) := loop_of (cfgOk_of mixed tys_ok (show FnsOk Try.prog C_s_CreditsOk from ⟨fn_s_AddrOk, fn_s_l1In, trivial⟩)) hp (all_of (by kernel_rfl : loopsOf (nthLoop Try.f83 1) = []) trivial) (by kernel_rfl) lp_s_CreditsOk_9
theorem lp_s_CreditsOk_4 : ∀ d, bod ⟨lookT tys, ctrOf C_s_CreditsOk, kindOf C_s_CreditsOk, 3, 4⟩ 0 Try.f83.ntmps Q_s_CreditsOk (nthLoop Try.f83 0) K_s_CreditsOk_4 5000000 X_s_CreditsOk_4 d = B_s_CreditsOk_4 d := fun d => by kernel_rfl
theorem lo_s_CreditsOk_4 (cx : Cx) (hp : cx.pin.length ≤ 0) : LoopOk Try.prog cx Try.f83.ntmps Q_s_CreditsOk (nthLoop Try.f83 0) := loop_of (cfgOk_of mixed tys_ok (show FnsOk Try.prog C_s_CreditsOk from ⟨fn_s_AddrOk, fn_s_l1In, trivial⟩)) hp (all_of (by kernel_rfl : loopsOf (nthLoop Try.f83 0) = [nthLoop Try.f83 1]) ⟨lo_s_CreditsOk_9 cx hp, trivial⟩) (by kernel_rfl) lp_s_CreditsOk_4
theorem e_s_CreditsOk : ∀ d, pcall ⟨lookT tys, ctrOf C_s_CreditsOk, kindOf C_s_CreditsOk, 3, 4⟩ 0 Q_s_CreditsOk Try.f83 .plain (mkA P_s_CreditsOk d) = (T_s_CreditsOk d.1).run fun r => some (O_s_CreditsOk r) := fun d => by kernel_rfl
theorem fn_s_CreditsOk : Fn Try.prog 83 .plain F_s_CreditsOk := fn_of (cfgOk_of mixed tys_ok (show FnsOk Try.prog C_s_CreditsOk from ⟨fn_s_AddrOk, fn_s_l1In, trivial⟩)) Try.func83 (by kernel_rfl) (by kernel_rfl) (fun cx b hp hb => all_of (by kernel_rfl : loopsOf (Try.f83.body.getD .skip) = [nthLoop Try.f83 0]) ⟨lo_s_CreditsOk_4 cx hp, trivial⟩ b hb) (R := (Bool × Unit)) (T := fun (d : aden P_s_CreditsOk) => T_s_CreditsOk d.1) e_s_CreditsOk
def P_s_PskOk : List (Bool × List Sh) := [(false, [.sl 5 [.int .u8]])]
def O_s_PskOk (r : (Bool × Unit)) : List RV × List RV := ([rv (false, [.bool]) r], [])
def C_s_PskOk : Fns := [(70, .plain, F_s_l1In)]
def F_s_PskOk : Fun1 := funV P_s_PskOk (fun d => (T_s_PskOk d.1).val) O_s_PskOk
def Q_s_PskOk : Loops := fun _ _ => .fail
theorem e_s_PskOk : ∀ d, pcall ⟨lookT tys, ctrOf C_s_PskOk, kindOf C_s_PskOk, 3, 4⟩ 0 Q_s_PskOk Try.f84 .plain (mkA P_s_PskOk d) = (T_s_PskOk d.1).run fun r => some (O_s_PskOk r) := fun d => by kernel_rfl
theorem fn_s_PskOk : Fn Try.prog 84 .plain F_s_PskOk := fn_of (cfgOk_of mixed tys_ok (show FnsOk Try.prog C_s_PskOk from ⟨fn_s_l1In, trivial⟩)) Try.func84 (by kernel_rfl) (by kernel_rfl) (fun cx b hp hb => all_of (by kernel_rfl : loopsOf (Try.f84.body.getD .skip) = []) trivial b hb) (R := (Bool × Unit)) (T := fun (d : aden P_s_PskOk) => T_s_PskOk d.1) e_s_PskOk
def P_s_ServerOk : List (Bool × List Sh) := [(true, h_16)]
def O_s_ServerOk (r : (Bool × Unit)) : List RV × List RV := ([rv (false, [.bool]) r], [])
def C_s_ServerOk : Fns := [(70, .plain, F_s_l1In), (80, .plain, F_s_JarOk), (81, .plain, F_s_DiceOk), (82, .plain, F_s_TabOk), (83, .plain, F_s_CreditsOk), (84, .plain, F_s_PskOk)]
def F_s_ServerOk : Fun1 := funV P_s_ServerOk (fun d => (T_s_ServerOk d.1).val) O_s_ServerOk
def K_s_ServerOk_9 : Sk := ⟨[(1, .box 1 0), (4, .v false [(.int .i64, .nil)])], [(1, [(.sl 22 [.sl 5 [.int .u8]], .ro), (.sl 5 [.int .u8], .ro), (.sl 5 [.int .u8], .ro), (.int .i64, .nil), (.int .i64, .nil), (.sl 48 h_14, .ro), (.sl 207 h_2, .ro)])], []⟩
def X_s_ServerOk_9 : List (Ex × Sk) := [(.ret, ⟨[(2, .v false [(.bool, .nil)])], [], []⟩), ((.exit 2), ⟨[], [], []⟩)]
def K_s_ServerOk_4 : Sk := ⟨[(1, .box 1 0), (3, .v false [(.int .i64, .nil)])], [(1, [(.sl 22 [.sl 5 [.int .u8]], .ro), (.sl 5 [.int .u8], .ro), (.sl 5 [.int .u8], .ro), (.int .i64, .nil), (.int .i64, .nil), (.sl 48 h_14, .ro), (.sl 207 h_2, .ro)])], []⟩
def X_s_ServerOk_4 : List (Ex × Sk) := [(.ret, ⟨[(2, .v false [(.bool, .nil)])], [], []⟩), ((.exit 0), ⟨[(1, .box 1 0)], [(1, [(.sl 22 [.sl 5 [.int .u8]], .ro), (.sl 5 [.int .u8], .ro), (.sl 5 [.int .u8], .ro), (.int .i64, .nil), (.int .i64, .nil), (.sl 48 h_14, .ro), (.sl 207 h_2, .ro)])], []⟩)]
def Q_s_ServerOk : Loops := fun i st => cond (Nat.beq i 4) (lam K_s_ServerOk_4 5000000 X_s_ServerOk_4 B_s_ServerOk_4 st) <| cond (Nat.beq i 9) (lam K_s_ServerOk_9 10000000 X_s_ServerOk_9 B_s_ServerOk_9 st) <| .fail
theorem lp_s_ServerOk_4 : ∀ d, bod ⟨lookT tys, ctrOf C_s_ServerOk, kindOf C_s_ServerOk, 3, 4⟩ 0 Try.f19.ntmps Q_s_ServerOk (nthLoop Try.f19 0) K_s_ServerOk_4 5000000 X_s_ServerOk_4 d = B_s_ServerOk_4 d := fun d => by kernel_rfl
theorem lo_s_ServerOk_4 (cx : Cx) (hp : cx.pin.length ≤ 0) : LoopOk Try.prog cx Try.f19.ntmps Q_s_ServerOk (nthLoop Try.f19 0) := loop_of (cfgOk_of mixed tys_ok (show FnsOk Try.prog C_s_ServerOk from ⟨fn_s_l1In, fn_s_JarOk, fn_s_DiceOk, fn_s_TabOk, fn_s_CreditsOk, fn_s_PskOk, trivial⟩)) hp (all_of (by kernel_rfl : loopsOf (nthLoop Try.f19 0) = []) trivial) (by kernel_rfl) lp_s_ServerOk_4
theorem lp_s_ServerOk_9 : ∀ d, bod ⟨lookT tys, ctrOf C_s_ServerOk, kindOf C_s_ServerOk, 3, 4⟩ 0 Try.f19.ntmps Q_s_ServerOk (nthLoop Try.f19 1) K_s_ServerOk_9 10000000 X_s_ServerOk_9 d = B_s_ServerOk_9 d := fun d => by kernel_rfl
theorem lo_s_ServerOk_9 (cx : Cx) (hp : cx.pin.length ≤ 0) : LoopOk Try.prog cx Try.f19.ntmps Q_s_ServerOk (nthLoop Try.f19 1) := loop_of (cfgOk_of mixed tys_ok (show FnsOk Try.prog C_s_ServerOk from ⟨fn_s_l1In, fn_s_JarOk, fn_s_DiceOk, fn_s_TabOk, fn_s_CreditsOk, fn_s_PskOk, trivial⟩)) hp (all_of (by kernel_rfl : loopsOf (nthLoop Try.f19 1) = []) trivial) (by kernel_rfl) lp_s_ServerOk_9
theorem e_s_ServerOk : ∀ d, pcall ⟨lookT tys, ctrOf C_s_ServerOk, kindOf C_s_ServerOk, 3, 4⟩ 0 Q_s_ServerOk Try.f19 .plain (mkA P_s_ServerOk d) = (T_s_ServerOk d.1).run fun r => some (O_s_ServerOk r) := fun d => by kernel_rfl
theorem fn_s_ServerOk : Fn Try.prog 19 .plain F_s_ServerOk := fn_of (cfgOk_of mixed tys_ok (show FnsOk Try.prog C_s_ServerOk from ⟨fn_s_l1In, fn_s_JarOk, fn_s_DiceOk, fn_s_TabOk, fn_s_CreditsOk, fn_s_PskOk, trivial⟩)) Try.func19 (by kernel_rfl) (by kernel_rfl) (fun cx b hp hb => all_of (by kernel_rfl : loopsOf (Try.f19.body.getD .skip) = [nthLoop Try.f19 0, nthLoop Try.f19 1]) ⟨lo_s_ServerOk_4 cx hp, lo_s_ServerOk_9 cx hp, trivial⟩ b hb) (R := (Bool × Unit)) (T := fun (d : aden P_s_ServerOk) => T_s_ServerOk d.1) e_s_ServerOk
def P_i_JarOk : List (Bool × List Sh) := [(true, [.sl 5 [.int .u8]])]
def O_i_JarOk (r : (Bool × Unit)) : List RV × List RV := ([rv (false, [.bool]) r], [])
def C_i_JarOk : Fns := []
def F_i_JarOk : Fun1 := funV P_i_JarOk (fun d => (T_i_JarOk d.1).val) O_i_JarOk
def Q_i_JarOk : Loops := fun _ _ => .fail
theorem e_i_JarOk : ∀ d, pcall ⟨lookT tys, ctrOf C_i_JarOk, kindOf C_i_JarOk, 3, 4⟩ 0 Q_i_JarOk Try.f89 .plain (mkA P_i_JarOk d) = (T_i_JarOk d.1).run fun r => some (O_i_JarOk r) := fun d => by kernel_rfl
theorem fn_i_JarOk : Fn Try.prog 89 .plain F_i_JarOk := fn_of (cfgOk_of mixed tys_ok (show FnsOk Try.prog C_i_JarOk from trivial)) Try.func89 (by kernel_rfl) (by kernel_rfl) (fun cx b hp hb => all_of (by kernel_rfl : loopsOf (Try.f89.body.getD .skip) = []) trivial b hb) (R := (Bool × Unit)) (T := fun (d : aden P_i_JarOk) => T_i_JarOk d.1) e_i_JarOk
def P_i_DiceOk : List (Bool × List Sh) := [(true, [.sl 5 [.int .u8], .int .i64])]
def O_i_DiceOk (r : (Bool × Unit)) : List RV × List RV := ([rv (false, [.bool]) r], [])
def C_i_DiceOk : Fns := [(73, .plain, F_i_within)]
def F_i_DiceOk : Fun1 := funV P_i_DiceOk (fun d => (T_i_DiceOk d.1).val) O_i_DiceOk
def Q_i_DiceOk : Loops := fun _ _ => .fail
theorem e_i_DiceOk : ∀ d, pcall ⟨lookT tys, ctrOf C_i_DiceOk, kindOf C_i_DiceOk, 3, 4⟩ 0 Q_i_DiceOk Try.f90 .plain (mkA P_i_DiceOk d) = (T_i_DiceOk d.1).run fun r => some (O_i_DiceOk r) := fun d => by kernel_rfl
theorem fn_i_DiceOk : Fn Try.prog 90 .plain F_i_DiceOk := fn_of (cfgOk_of mixed tys_ok (show FnsOk Try.prog C_i_DiceOk from ⟨fn_i_within, trivial⟩)) Try.func90 (by kernel_rfl) (by kernel_rfl) (fun cx b hp hb => all_of (by kernel_rfl : loopsOf (Try.f90.body.getD .skip) = []) trivial b hb) (R := (Bool × Unit)) (T := fun (d : aden P_i_DiceOk) => T_i_DiceOk d.1) e_i_DiceOk
def P_i_Live : List (Bool × List Sh) := [(true, [.int .i64, .sl 48 h_14])]
def O_i_Live (r : (YI)) : List RV × List RV := ([rv (false, [.int .i64]) r], [])
def C_i_Live : Fns := []
def F_i_Live : Fun1 := funV P_i_Live (fun d => (T_i_Live d.1).val) O_i_Live
def K_i_Live_3 : Sk := ⟨[(3, .v false [(.int .i64, .nil)]), (7, .v false [(.sl 48 h_14, .ro)]), (8, .v false [(.int .i64, .nil)]), (9, .v false [(.int .i64, .nil)])], [], []⟩
def X_i_Live_3 : List (Ex × Sk) := [((.exit 0), ⟨[(3, .v false [(.int .i64, .nil)])], [], []⟩)]
def Q_i_Live : Loops := fun i st => cond (Nat.beq i 3) (lam K_i_Live_3 4000000 X_i_Live_3 B_i_Live_3 st) <| .fail
theorem lp_i_Live_3 : ∀ d, bod ⟨lookT tys, ctrOf C_i_Live, kindOf C_i_Live, 3, 4⟩ 0 Try.f163.ntmps Q_i_Live (nthLoop Try.f163 0) K_i_Live_3 4000000 X_i_Live_3 d = B_i_Live_3 d := fun d => by kernel_rfl
theorem lo_i_Live_3 (cx : Cx) (hp : cx.pin.length ≤ 0) : LoopOk Try.prog cx Try.f163.ntmps Q_i_Live (nthLoop Try.f163 0) := loop_of (cfgOk_of mixed tys_ok (show FnsOk Try.prog C_i_Live from trivial)) hp (all_of (by kernel_rfl : loopsOf (nthLoop Try.f163 0) = []) trivial) (by kernel_rfl) lp_i_Live_3
theorem e_i_Live : ∀ d, pcall ⟨lookT tys, ctrOf C_i_Live, kindOf C_i_Live, 3, 4⟩ 0 Q_i_Live Try.f163 .plain (mkA P_i_Live d) = (T_i_Live d.1).run fun r => some (O_i_Live r) := fun d => by kernel_rfl
theorem fn_i_Live : Fn Try.prog 163 .plain F_i_Live := fn_of (cfgOk_of mixed tys_ok (show FnsOk Try.prog C_i_Live from trivial)) Try.func163 (by kernel_rfl) (by kernel_rfl) (fun cx b hp hb => all_of (by kernel_rfl : loopsOf (Try.f163.body.getD .skip) = [nthLoop Try.f163 0]) ⟨lo_i_Live_3 cx hp, trivial⟩ b hb) (R := (YI)) (T := fun (d : aden P_i_Live) => T_i_Live d.1) e_i_Live
def P_i_FindSn : List (Bool × List Sh) := [(true, [.int .i64, .sl 48 h_14]), (false, [.sl 5 [.int .u8]])]
def O_i_FindSn (r : (YI)) : List RV × List RV := ([rv (false, [.int .i64]) r], [])
def C_i_FindSn : Fns := [(146, .plain, F_bytes_Equal)]
def F_i_FindSn : Fun1 := funV P_i_FindSn (fun d => (T_i_FindSn d.1 d.2.1).val) O_i_FindSn
def K_i_FindSn_2 : Sk := ⟨[(1, .v false [(.sl 5 [.int .u8], .ro)]), (8, .v false [(.sl 48 h_14, .ro)]), (9, .v false [(.int .i64, .nil)]), (10, .v false [(.int .i64, .nil)])], [], []⟩
def X_i_FindSn_2 : List (Ex × Sk) := [(.ret, ⟨[(4, .v false [(.int .i64, .nil)])], [], []⟩), ((.exit 0), ⟨[], [], []⟩)]
def Q_i_FindSn : Loops := fun i st => cond (Nat.beq i 2) (lam K_i_FindSn_2 3000000 X_i_FindSn_2 B_i_FindSn_2 st) <| .fail
theorem lp_i_FindSn_2 : ∀ d, bod ⟨lookT tys, ctrOf C_i_FindSn, kindOf C_i_FindSn, 3, 4⟩ 0 Try.f164.ntmps Q_i_FindSn (nthLoop Try.f164 0) K_i_FindSn_2 3000000 X_i_FindSn_2 d = B_i_FindSn_2 d := fun d => by kernel_rfl
theorem lo_i_FindSn_2 (cx : Cx) (hp : cx.pin.length ≤ 0) : LoopOk Try.prog cx Try.f164.ntmps Q_i_FindSn (nthLoop Try.f164 0) := loop_of (cfgOk_of mixed tys_ok (show FnsOk Try.prog C_i_FindSn from ⟨fn_bytes_Equal, trivial⟩)) hp (all_of (by kernel_rfl : loopsOf (nthLoop Try.f164 0) = []) trivial) (by kernel_rfl) lp_i_FindSn_2
theorem e_i_FindSn : ∀ d, pcall ⟨lookT tys, ctrOf C_i_FindSn, kindOf C_i_FindSn, 3, 4⟩ 0 Q_i_FindSn Try.f164 .plain (mkA P_i_FindSn d) = (T_i_FindSn d.1 d.2.1).run fun r => some (O_i_FindSn r) := fun d => by kernel_rfl
theorem fn_i_FindSn : Fn Try.prog 164 .plain F_i_FindSn := fn_of (cfgOk_of mixed tys_ok (show FnsOk Try.prog C_i_FindSn from ⟨fn_bytes_Equal, trivial⟩)) Try.func164 (by kernel_rfl) (by kernel_rfl) (fun cx b hp hb => all_of (by kernel_rfl : loopsOf (Try.f164.body.getD .skip) = [nthLoop Try.f164 0]) ⟨lo_i_FindSn_2 cx hp, trivial⟩ b hb) (R := (YI)) (T := fun (d : aden P_i_FindSn) => T_i_FindSn d.1 d.2.1) e_i_FindSn
def P_i_TabOk : List (Bool × List Sh) := [(true, [.int .i64, .sl 48 h_14])]
def O_i_TabOk (r : (Bool × Unit)) : List RV × List RV := ([rv (false, [.bool]) r], [])
def C_i_TabOk : Fns := [(73, .plain, F_i_within), (163, .plain, F_i_Live), (61, .plain, F_i_SessOk), (164, .plain, F_i_FindSn)]
def F_i_TabOk : Fun1 := funV P_i_TabOk (fun d => (T_i_TabOk d.1).val) O_i_TabOk
def K_i_TabOk_4 : Sk := ⟨[(1, .box 1 0), (23, .v false [(.sl 48 h_14, .ro)]), (24, .v false [(.int .i64, .nil)]), (25, .v false [(.int .i64, .nil)])], [(1, [(.int .i64, .nil), (.sl 48 h_14, .ro)])], []⟩
def X_i_TabOk_4 : List (Ex × Sk) := [(.ret, ⟨[(2, .v false [(.bool, .nil)])], [], []⟩), ((.exit 0), ⟨[], [], []⟩)]
def Q_i_TabOk : Loops := fun i st => cond (Nat.beq i 4) (lam K_i_TabOk_4 5000000 X_i_TabOk_4 B_i_TabOk_4 st) <| .fail
theorem lp_i_TabOk_4 : ∀ d, bod ⟨lookT tys, ctrOf C_i_TabOk, kindOf C_i_TabOk, 3, 4⟩ 0 Try.f91.ntmps Q_i_TabOk (nthLoop Try.f91 0) K_i_TabOk_4 5000000 X_i_TabOk_4 d = B_i_TabOk_4 d := fun d => by kernel_rfl
theorem lo_i_TabOk_4 (cx : Cx) (hp : cx.pin.length ≤ 0) : LoopOk Try.prog cx Try.f91.ntmps Q_i_TabOk (nthLoop Try.f91 0) := loop_of (cfgOk_of mixed tys_ok (show FnsOk Try.prog C_i_TabOk from ⟨fn_i_within, fn_i_Live, fn_i_SessOk, fn_i_FindSn, trivial⟩)) hp (all_of (by kernel_rfl : loopsOf (nthLoop Try.f91 0) = []) trivial) (by kernel_rfl) lp_i_TabOk_4
theorem e_i_TabOk : ∀ d, pcall ⟨lookT tys, ctrOf C_i_TabOk, kindOf C_i_TabOk, 3, 4⟩ 0 Q_i_TabOk Try.f91 .plain (mkA P_i_TabOk d) = (T_i_TabOk d.1).run fun r => some (O_i_TabOk r) := fun d => by kernel_rfl
theorem fn_i_TabOk : Fn Try.prog 91 .plain F_i_TabOk := fn_of (cfgOk_of mixed tys_ok (show FnsOk Try.prog C_i_TabOk from ⟨fn_i_within, fn_i_Live, fn_i_SessOk, fn_i_FindSn, trivial⟩)) Try.func91 (by kernel_rfl) (by kernel_rfl) (fun cx b hp hb => all_of (by kernel_rfl : loopsOf (Try.f91.body.getD .skip) = [nthLoop Try.f91 0]) ⟨lo_i_TabOk_4 cx hp, trivial⟩ b hb) (R := (Bool × Unit)) (T := fun (d : aden P_i_TabOk) => T_i_TabOk d.1) e_i_TabOk
def P_i_creditAt : List (Bool × List Sh) := [(false, [.sl 207 h_2]), (true, [.int .i64, .int .i64])]
def O_i_creditAt (r : (YI)) : List RV × List RV := ([rv (false, [.int .i64]) r], [])
def C_i_creditAt : Fns := []
def F_i_creditAt : Fun1 := funV P_i_creditAt (fun d => (T_i_creditAt d.1 d.2.1).val) O_i_creditAt
def K_i_creditAt_2 : Sk := ⟨[(3, .box 3 0), (7, .v false [(.sl 207 h_2, .ro)]), (8, .v false [(.int .i64, .nil)]), (9, .v false [(.int .i64, .nil)])], [(3, [(.int .i64, .nil), (.int .i64, .nil)])], []⟩
def X_i_creditAt_2 : List (Ex × Sk) := [(.ret, ⟨[(4, .v false [(.int .i64, .nil)])], [], []⟩), ((.exit 0), ⟨[], [], []⟩)]
def Q_i_creditAt : Loops := fun i st => cond (Nat.beq i 2) (lam K_i_creditAt_2 3000000 X_i_creditAt_2 B_i_creditAt_2 st) <| .fail
theorem lp_i_creditAt_2 : ∀ d, bod ⟨lookT tys, ctrOf C_i_creditAt, kindOf C_i_creditAt, 3, 4⟩ 0 Try.f165.ntmps Q_i_creditAt (nthLoop Try.f165 0) K_i_creditAt_2 3000000 X_i_creditAt_2 d = B_i_creditAt_2 d := fun d => by kernel_rfl
theorem lo_i_creditAt_2 (cx : Cx) (hp : cx.pin.length ≤ 0) : LoopOk Try.prog cx Try.f165.ntmps Q_i_creditAt (nthLoop Try.f165 0) := loop_of (cfgOk_of mixed tys_ok (show FnsOk Try.prog C_i_creditAt from trivial)) hp (all_of (by kernel_rfl : loopsOf (nthLoop Try.f165 0) = []) trivial) (by kernel_rfl) lp_i_creditAt_2
theorem e_i_creditAt : ∀ d, pcall ⟨lookT tys, ctrOf C_i_creditAt, kindOf C_i_creditAt, 3, 4⟩ 0 Q_i_creditAt Try.f165 .plain (mkA P_i_creditAt d) = (T_i_creditAt d.1 d.2.1).run fun r => some (O_i_creditAt r) := fun d => by kernel_rfl
theorem fn_i_creditAt : Fn Try.prog 165 .plain F_i_creditAt := fn_of (cfgOk_of mixed tys_ok (show FnsOk Try.prog C_i_creditAt from trivial)) Try.func165 (by kernel_rfl) (by kernel_rfl) (fun cx b hp hb => all_of (by kernel_rfl : loopsOf (Try.f165.body.getD .skip) = [nthLoop Try.f165 0]) ⟨lo_i_creditAt_2 cx hp, trivial⟩ b hb) (R := (YI)) (T := fun (d : aden P_i_creditAt) => T_i_creditAt d.1 d.2.1) e_i_creditAt
def P_i_CreditsOk : List (Bool × List Sh) := [(false, [.sl 207 h_2])]
def O_i_CreditsOk (r : (Bool × Unit)) : List RV × List RV := ([rv (false, [.bool]) r], [])
def C_i_CreditsOk : Fns := [(115, .plain, F_i_AddrOk), (73, .plain, F_i_within), (165, .plain, F_i_creditAt)]
def F_i_CreditsOk : Fun1 := funV P_i_CreditsOk (fun d => (T_i_CreditsOk d.1).val) O_i_CreditsOk
def K_i_CreditsOk_4 : Sk := ⟨[(0, .v false [(.sl 207 h_2, .ro)]), (8, .v false [(.sl 207 h_2, .ro)]), (9, .v false [(.int .i64, .nil)]), (10, .v false [(.int .i64, .nil)])], [], []⟩
def X_i_CreditsOk_4 : List (Ex × Sk) := [(.ret, ⟨[(2, .v false [(.bool, .nil)])], [], []⟩), ((.exit 0), ⟨[], [], []⟩)]
def Q_i_CreditsOk : Loops := fun i st => cond (Nat.beq i 4) (lam K_i_CreditsOk_4 5000000 X_i_CreditsOk_4 B_i_CreditsOk_4 st) <| .fail
theorem lp_i_CreditsOk_4 : ∀ d, bod ⟨lookT tys, ctrOf C_i_CreditsOk, kindOf C_i_CreditsOk, 3, 4⟩ 0 Try.f92.ntmps Q_i_CreditsOk (nthLoop Try.f92 0) K_i_CreditsOk_4 5000000 X_i_CreditsOk_4 d = B_i_CreditsOk_4 d := fun d => by kernel_rfl
theorem lo_i_CreditsOk_4 (cx : Cx) (hp : cx.pin.length ≤ 0) : LoopOk Try.prog cx Try.f92.ntmps Q_i_CreditsOk (nthLoop Try.f92 0) := loop_of (cfgOk_of mixed tys_ok (show FnsOk Try.prog C_i_CreditsOk from ⟨fn_i_AddrOk, fn_i_within, fn_i_creditAt, trivial⟩)) hp (all_of (by kernel_rfl : loopsOf (nthLoop Try.f92 0) = []) trivial) (by kernel_rfl) lp_i_CreditsOk_4
theorem e_i_CreditsOk : ∀ d, pcall ⟨lookT tys, ctrOf C_i_CreditsOk, kindOf C_i_CreditsOk, 3, 4⟩ 0 Q_i_CreditsOk Try.f92 .plain (mkA P_i_CreditsOk d) = (T_i_CreditsOk d.1).run fun r => some (O_i_CreditsOk r) := fun d => by kernel_rfl
theorem fn_i_CreditsOk : Fn Try.prog 92 .plain F_i_CreditsOk := fn_of (cfgOk_of mixed tys_ok (show FnsOk Try.prog C_i_CreditsOk from ⟨fn_i_AddrOk, fn_i_within, fn_i_creditAt, trivial⟩)) Try.func92 (by kernel_rfl) (by kernel_rfl) (fun cx b hp hb => all_of (by kernel_rfl : loopsOf (Try.f92.body.getD .skip) = [nthLoop Try.f92 0]) ⟨lo_i_CreditsOk_4 cx hp, trivial⟩ b hb) (R := (Bool × Unit)) (T := fun (d : aden P_i_CreditsOk) => T_i_CreditsOk d.1) e_i_CreditsOk
def P_i_PskOk : List (Bool × List Sh) := [(false, [.sl 5 [.int .u8]])]
def O_i_PskOk (r : (Bool × Unit)) : List RV × List RV := ([rv (false, [.bool]) r], [])
def C_i_PskOk : Fns := [(73, .plain, F_i_within)]
def F_i_PskOk : Fun1 := funV P_i_PskOk (fun d => (T_i_PskOk d.1).val) O_i_PskOk
def Q_i_PskOk : Loops := fun _ _ => .fail
theorem e_i_PskOk : ∀ d, pcall ⟨lookT tys, ctrOf C_i_PskOk, kindOf C_i_PskOk, 3, 4⟩ 0 Q_i_PskOk Try.f93 .plain (mkA P_i_PskOk d) = (T_i_PskOk d.1).run fun r => some (O_i_PskOk r) := fun d => by kernel_rfl
theorem fn_i_PskOk : Fn Try.prog 93 .plain F_i_PskOk := fn_of (cfgOk_of mixed tys_ok (show FnsOk Try.prog C_i_PskOk from ⟨fn_i_within, trivial⟩)) Try.func93 (by kernel_rfl) (by kernel_rfl) (fun cx b hp hb => all_of (by kernel_rfl : loopsOf (Try.f93.body.getD .skip) = []) trivial b hb) (R := (Bool × Unit)) (T := fun (d : aden P_i_PskOk) => T_i_PskOk d.1) e_i_PskOk
def P_i_ServerOk : List (Bool × List Sh) := [(true, h_16)]
def O_i_ServerOk (r : (Bool × Unit)) : List RV × List RV := ([rv (false, [.bool]) r], [])
def C_i_ServerOk : Fns := [(73, .plain, F_i_within), (89, .plain, F_i_JarOk), (90, .plain, F_i_DiceOk), (91, .plain, F_i_TabOk), (92, .plain, F_i_CreditsOk), (93, .plain, F_i_PskOk)]
def F_i_ServerOk : Fun1 := funV P_i_ServerOk (fun d => (T_i_ServerOk d.1).val) O_i_ServerOk
def K_i_ServerOk_10 : Sk := ⟨[(1, .box 1 0), (49, .v false [(.sl 48 h_14, .ro)]), (50, .v false [(.int .i64, .nil)]), (51, .v false [(.int .i64, .nil)])], [(1, [(.sl 22 [.sl 5 [.int .u8]], .ro), (.sl 5 [.int .u8], .ro), (.sl 5 [.int .u8], .ro), (.int .i64, .nil), (.int .i64, .nil), (.sl 48 h_14, .ro), (.sl 207 h_2, .ro)])], []⟩
def X_i_ServerOk_10 : List (Ex × Sk) := [(.ret, ⟨[(2, .v false [(.bool, .nil)])], [], []⟩), ((.exit 2), ⟨[], [], []⟩)]
def K_i_ServerOk_4 : Sk := ⟨[(1, .box 1 0), (37, .v false [(.sl 22 [.sl 5 [.int .u8]], .ro)]), (38, .v false [(.int .i64, .nil)]), (39, .v false [(.int .i64, .nil)])], [(1, [(.sl 22 [.sl 5 [.int .u8]], .ro), (.sl 5 [.int .u8], .ro), (.sl 5 [.int .u8], .ro), (.int .i64, .nil), (.int .i64, .nil), (.sl 48 h_14, .ro), (.sl 207 h_2, .ro)])], []⟩
def X_i_ServerOk_4 : List (Ex × Sk) := [(.ret, ⟨[(2, .v false [(.bool, .nil)])], [], []⟩), ((.exit 0), ⟨[(1, .box 1 0)], [(1, [(.sl 22 [.sl 5 [.int .u8]], .ro), (.sl 5 [.int .u8], .ro), (.sl 5 [.int .u8], .ro), (.int .i64, .nil), (.int .i64, .nil), (.sl 48 h_14, .ro), (.sl 207 h_2, .ro)])], []⟩)]
def Q_i_ServerOk : Loops := fun i st => cond (Nat.beq i 4) (lam K_i_ServerOk_4 5000000 X_i_ServerOk_4 B_i_ServerOk_4 st) <| cond (Nat.beq i 10) (lam K_i_ServerOk_10 11000000 X_i_ServerOk_10 B_i_ServerOk_10 st) <| .fail
theorem lp_i_ServerOk_4 : ∀ d, bod ⟨lookT tys, ctrOf C_i_ServerOk, kindOf C_i_ServerOk, 3, 4⟩ 0 Try.f21.ntmps Q_i_ServerOk (nthLoop Try.f21 0) K_i_ServerOk_4 5000000 X_i_ServerOk_4 d = B_i_ServerOk_4 d := fun d => by kernel_rfl
theorem lo_i_ServerOk_4 (cx : Cx) (hp : cx.pin.length ≤ 0) : LoopOk Try.prog cx Try.f21.ntmps Q_i_ServerOk (nthLoop Try.f21 0) := loop_of (cfgOk_of mixed tys_ok (show FnsOk Try.prog C_i_ServerOk from ⟨fn_i_within, fn_i_JarOk, fn_i_DiceOk, fn_i_TabOk, fn_i_CreditsOk, fn_i_PskOk, trivial⟩)) hp (all_of (by kernel_rfl : loopsOf (nthLoop Try.f21 0) = []) trivial) (by kernel_rfl) lp_i_ServerOk_4
theorem lp_i_ServerOk_10 : ∀ d, bod ⟨lookT tys, ctrOf C_i_ServerOk, kindOf C_i_ServerOk, 3, 4⟩ 0 Try.f21.ntmps Q_i_ServerOk (nthLoop Try.f21 1) K_i_ServerOk_10 11000000 X_i_ServerOk_10 d = B_i_ServerOk_10 d := fun d => by kernel_rfl
theorem lo_i_ServerOk_10 (cx : Cx) (hp : cx.pin.length ≤ 0) : LoopOk Try.prog cx Try.f21.ntmps Q_i_ServerOk (nthLoop Try.f21 1) := loop_of (cfgOk_of mixed tys_ok (show FnsOk Try.prog C_i_ServerOk from ⟨fn_i_within, fn_i_JarOk, fn_i_DiceOk, fn_i_TabOk, fn_i_CreditsOk, fn_i_PskOk, trivial⟩)) hp (all_of (by kernel_rfl : loopsOf (nthLoop Try.f21 1) = []) trivial) (by kernel_rfl) lp_i_ServerOk_10
theorem e_i_ServerOk : ∀ d, pcall ⟨lookT tys, ctrOf C_i_ServerOk, kindOf C_i_ServerOk, 3, 4⟩ 0 Q_i_ServerOk Try.f21 .plain (mkA P_i_ServerOk d) = (T_i_ServerOk d.1).run fun r => some (O_i_ServerOk r) := fun d => by kernel_rfl
theorem fn_i_ServerOk : Fn Try.prog 21 .plain F_i_ServerOk := fn_of (cfgOk_of mixed tys_ok (show FnsOk Try.prog C_i_ServerOk from ⟨fn_i_within, fn_i_JarOk, fn_i_DiceOk, fn_i_TabOk, fn_i_CreditsOk, fn_i_PskOk, trivial⟩)) Try.func21 (by kernel_rfl) (by kernel_rfl) (fun cx b hp hb => all_of (by kernel_rfl : loopsOf (Try.f21.body.getD .skip) = [nthLoop Try.f21 0, nthLoop Try.f21 1]) ⟨lo_i_ServerOk_4 cx hp, lo_i_ServerOk_10 cx hp, trivial⟩ b hb) (R := (Bool × Unit)) (T := fun (d : aden P_i_ServerOk) => T_i_ServerOk d.1) e_i_ServerOk
def P_l_eqByteSS : List (Bool × List Sh) := [(false, [.sl 22 [.sl 5 [.int .u8]]]), (false, [.sl 22 [.sl 5 [.int .u8]]])]
def O_l_eqByteSS (r : (Bool × Unit)) : List RV × List RV := ([rv (false, [.bool]) r], [])
def C_l_eqByteSS : Fns := [(44, .plain, F_l_eqByteS)]
def F_l_eqByteSS : Fun1 := funV P_l_eqByteSS (fun d => (T_l_eqByteSS d.1 d.2.1).val) O_l_eqByteSS
def K_l_eqByteSS_4 : Sk := ⟨[(0, .v false [(.sl 22 [.sl 5 [.int .u8]], .ro)]), (1, .v false [(.sl 22 [.sl 5 [.int .u8]], .ro)]), (5, .v false [(.int .i64, .nil)])], [], []⟩
def X_l_eqByteSS_4 : List (Ex × Sk) := [(.ret, ⟨[(4, .v false [(.bool, .nil)])], [], []⟩), ((.exit 0), ⟨[], [], []⟩)]
def Q_l_eqByteSS : Loops := fun i st => cond (Nat.beq i 4) (lam K_l_eqByteSS_4 5000000 X_l_eqByteSS_4 B_l_eqByteSS_4 st) <| .fail
theorem lp_l_eqByteSS_4 : ∀ d, bod ⟨lookT tys, ctrOf C_l_eqByteSS, kindOf C_l_eqByteSS, 3, 4⟩ 0 Try.f47.ntmps Q_l_eqByteSS (nthLoop Try.f47 0) K_l_eqByteSS_4 5000000 X_l_eqByteSS_4 d = B_l_eqByteSS_4 d := fun d => by kernel_rfl
theorem lo_l_eqByteSS_4 (cx : Cx) (hp : cx.pin.length ≤ 0) : LoopOk Try.prog cx Try.f47.ntmps Q_l_eqByteSS (nthLoop Try.f47 0) := loop_of (cfgOk_of mixed tys_ok (show FnsOk Try.prog C_l_eqByteSS from ⟨fn_l_eqByteS, trivial⟩)) hp (all_of (by kernel_rfl : loopsOf (nthLoop Try.f47 0) = []) trivial) (by kernel_rfl) lp_l_eqByteSS_4
theorem e_l_eqByteSS : ∀ d, pcall ⟨lookT tys, ctrOf C_l_eqByteSS, kindOf C_l_eqByteSS, 3, 4⟩ 0 Q_l_eqByteSS Try.f47 .plain (mkA P_l_eqByteSS d) = (T_l_eqByteSS d.1 d.2.1).run fun r => some (O_l_eqByteSS r) := fun d => by kernel_rfl
theorem fn_l_eqByteSS : Fn Try.prog 47 .plain F_l_eqByteSS := fn_of (cfgOk_of mixed tys_ok (show FnsOk Try.prog C_l_eqByteSS from ⟨fn_l_eqByteS, trivial⟩)) Try.func47 (by kernel_rfl) (by kernel_rfl) (fun cx b hp hb => all_of (by kernel_rfl : loopsOf (Try.f47.body.getD .skip) = [nthLoop Try.f47 0]) ⟨lo_l_eqByteSS_4 cx hp, trivial⟩ b hb) (R := (Bool × Unit)) (T := fun (d : aden P_l_eqByteSS) => T_l_eqByteSS d.1 d.2.1) e_l_eqByteSS
def P_l_eqJar : List (Bool × List Sh) := [(true, [.sl 5 [.int .u8]]), (true, [.sl 5 [.int .u8]])]
def O_l_eqJar (r : (Bool × Unit)) : List RV × List RV := ([rv (false, [.bool]) r], [])
def C_l_eqJar : Fns := [(44, .plain, F_l_eqByteS)]
def F_l_eqJar : Fun1 := funV P_l_eqJar (fun d => (T_l_eqJar d.1 d.2.1).val) O_l_eqJar
def Q_l_eqJar : Loops := fun _ _ => .fail
theorem e_l_eqJar : ∀ d, pcall ⟨lookT tys, ctrOf C_l_eqJar, kindOf C_l_eqJar, 3, 4⟩ 0 Q_l_eqJar Try.f94 .plain (mkA P_l_eqJar d) = (T_l_eqJar d.1 d.2.1).run fun r => some (O_l_eqJar r) := fun d => by kernel_rfl
theorem fn_l_eqJar : Fn Try.prog 94 .plain F_l_eqJar := fn_of (cfgOk_of mixed tys_ok (show FnsOk Try.prog C_l_eqJar from ⟨fn_l_eqByteS, trivial⟩)) Try.func94 (by kernel_rfl) (by kernel_rfl) (fun cx b hp hb => all_of (by kernel_rfl : loopsOf (Try.f94.body.getD .skip) = []) trivial b hb) (R := (Bool × Unit)) (T := fun (d : aden P_l_eqJar) => T_l_eqJar d.1 d.2.1) e_l_eqJar
def P_l_eqDice : List (Bool × List Sh) := [(true, [.sl 5 [.int .u8], .int .i64]), (true, [.sl 5 [.int .u8], .int .i64])]
def O_l_eqDice (r : (Bool × Unit)) : List RV × List RV := ([rv (false, [.bool]) r], [])
def C_l_eqDice : Fns := [(44, .plain, F_l_eqByteS)]
def F_l_eqDice : Fun1 := funV P_l_eqDice (fun d => (T_l_eqDice d.1 d.2.1).val) O_l_eqDice
def Q_l_eqDice : Loops := fun _ _ => .fail
theorem e_l_eqDice : ∀ d, pcall ⟨lookT tys, ctrOf C_l_eqDice, kindOf C_l_eqDice, 3, 4⟩ 0 Q_l_eqDice Try.f95 .plain (mkA P_l_eqDice d) = (T_l_eqDice d.1 d.2.1).run fun r => some (O_l_eqDice r) := fun d => by kernel_rfl
theorem fn_l_eqDice : Fn Try.prog 95 .plain F_l_eqDice := fn_of (cfgOk_of mixed tys_ok (show FnsOk Try.prog C_l_eqDice from ⟨fn_l_eqByteS, trivial⟩)) Try.func95 (by kernel_rfl) (by kernel_rfl) (fun cx b hp hb => all_of (by kernel_rfl : loopsOf (Try.f95.body.getD .skip) = []) trivial b hb) (R := (Bool × Unit)) (T := fun (d : aden P_l_eqDice) => T_l_eqDice d.1 d.2.1) e_l_eqDice
def P_l_eqSessS : List (Bool × List Sh) := [(false, [.sl 48 h_14]), (false, [.sl 48 h_14])]
def O_l_eqSessS (r : (Bool × Unit)) : List RV × List RV := ([rv (false, [.bool]) r], [])
def C_l_eqSessS : Fns := [(13, .plain, F_l_eqSess)]
def F_l_eqSessS : Fun1 := funV P_l_eqSessS (fun d => (T_l_eqSessS d.1 d.2.1).val) O_l_eqSessS
def K_l_eqSessS_4 : Sk := ⟨[(0, .v false [(.sl 48 h_14, .ro)]), (1, .v false [(.sl 48 h_14, .ro)]), (5, .v false [(.int .i64, .nil)])], [], []⟩
def X_l_eqSessS_4 : List (Ex × Sk) := [(.ret, ⟨[(4, .v false [(.bool, .nil)])], [], []⟩), ((.exit 0), ⟨[], [], []⟩)]
def Q_l_eqSessS : Loops := fun i st => cond (Nat.beq i 4) (lam K_l_eqSessS_4 5000000 X_l_eqSessS_4 B_l_eqSessS_4 st) <| .fail
theorem lp_l_eqSessS_4 : ∀ d, bod ⟨lookT tys, ctrOf C_l_eqSessS, kindOf C_l_eqSessS, 3, 4⟩ 0 Try.f166.ntmps Q_l_eqSessS (nthLoop Try.f166 0) K_l_eqSessS_4 5000000 X_l_eqSessS_4 d = B_l_eqSessS_4 d := fun d => by kernel_rfl
theorem lo_l_eqSessS_4 (cx : Cx) (hp : cx.pin.length ≤ 0) : LoopOk Try.prog cx Try.f166.ntmps Q_l_eqSessS (nthLoop Try.f166 0) := loop_of (cfgOk_of mixed tys_ok (show FnsOk Try.prog C_l_eqSessS from ⟨fn_l_eqSess, trivial⟩)) hp (all_of (by kernel_rfl : loopsOf (nthLoop Try.f166 0) = []) trivial) (by kernel_rfl) lp_l_eqSessS_4
theorem e_l_eqSessS : ∀ d, pcall ⟨lookT tys, ctrOf C_l_eqSessS, kindOf C_l_eqSessS, 3, 4⟩ 0 Q_l_eqSessS Try.f166 .plain (mkA P_l_eqSessS d) = (T_l_eqSessS d.1 d.2.1).run fun r => some (O_l_eqSessS r) := fun d => by kernel_rfl
theorem fn_l_eqSessS : Fn Try.prog 166 .plain F_l_eqSessS := fn_of (cfgOk_of mixed tys_ok (show FnsOk Try.prog C_l_eqSessS from ⟨fn_l_eqSess, trivial⟩)) Try.func166 (by kernel_rfl) (by kernel_rfl) (fun cx b hp hb => all_of (by kernel_rfl : loopsOf (Try.f166.body.getD .skip) = [nthLoop Try.f166 0]) ⟨lo_l_eqSessS_4 cx hp, trivial⟩ b hb) (R := (Bool × Unit)) (T := fun (d : aden P_l_eqSessS) => T_l_eqSessS d.1 d.2.1) e_l_eqSessS
def P_l_eqTab : List (Bool × List Sh) := [(true, [.int .i64, .sl 48 h_14]), (true, [.int .i64, .sl 48 h_14])]
def O_l_eqTab (r : (Bool × Unit)) : List RV × List RV := ([rv (false, [.bool]) r], [])
def C_l_eqTab : Fns := [(166, .plain, F_l_eqSessS)]
def F_l_eqTab : Fun1 := funV P_l_eqTab (fun d => (T_l_eqTab d.1 d.2.1).val) O_l_eqTab
def Q_l_eqTab : Loops := fun _ _ => .fail
theorem e_l_eqTab : ∀ d, pcall ⟨lookT tys, ctrOf C_l_eqTab, kindOf C_l_eqTab, 3, 4⟩ 0 Q_l_eqTab Try.f96 .plain (mkA P_l_eqTab d) = (T_l_eqTab d.1 d.2.1).run fun r => some (O_l_eqTab r) := fun d => by kernel_rfl
theorem fn_l_eqTab : Fn Try.prog 96 .plain F_l_eqTab := fn_of (cfgOk_of mixed tys_ok (show FnsOk Try.prog C_l_eqTab from ⟨fn_l_eqSessS, trivial⟩)) Try.func96 (by kernel_rfl) (by kernel_rfl) (fun cx b hp hb => all_of (by kernel_rfl : loopsOf (Try.f96.body.getD .skip) = []) trivial b hb) (R := (Bool × Unit)) (T := fun (d : aden P_l_eqTab) => T_l_eqTab d.1 d.2.1) e_l_eqTab
def P_l_eqCredit : List (Bool × List Sh) := [(true, h_2), (true, h_2)]
def O_l_eqCredit (r : (Bool × Unit)) : List RV × List RV := ([rv (false, [.bool]) r], [])
def C_l_eqCredit : Fns := [(108, .plain, F_l_eqAddr)]
def F_l_eqCredit : Fun1 := funV P_l_eqCredit (fun d => (T_l_eqCredit d.1 d.2.1).val) O_l_eqCredit
def Q_l_eqCredit : Loops := fun _ _ => .fail
theorem e_l_eqCredit : ∀ d, pcall ⟨lookT tys, ctrOf C_l_eqCredit, kindOf C_l_eqCredit, 3, 4⟩ 0 Q_l_eqCredit Try.f167 .plain (mkA P_l_eqCredit d) = (T_l_eqCredit d.1 d.2.1).run fun r => some (O_l_eqCredit r) := fun d => by kernel_rfl
theorem fn_l_eqCredit : Fn Try.prog 167 .plain F_l_eqCredit := fn_of (cfgOk_of mixed tys_ok (show FnsOk Try.prog C_l_eqCredit from ⟨fn_l_eqAddr, trivial⟩)) Try.func167 (by kernel_rfl) (by kernel_rfl) (fun cx b hp hb => all_of (by kernel_rfl : loopsOf (Try.f167.body.getD .skip) = []) trivial b hb) (R := (Bool × Unit)) (T := fun (d : aden P_l_eqCredit) => T_l_eqCredit d.1 d.2.1) e_l_eqCredit
def P_l_eqCreditS : List (Bool × List Sh) := [(false, [.sl 207 h_2]), (false, [.sl 207 h_2])]
def O_l_eqCreditS (r : (Bool × Unit)) : List RV × List RV := ([rv (false, [.bool]) r], [])
def C_l_eqCreditS : Fns := [(167, .plain, F_l_eqCredit)]
def F_l_eqCreditS : Fun1 := funV P_l_eqCreditS (fun d => (T_l_eqCreditS d.1 d.2.1).val) O_l_eqCreditS
def K_l_eqCreditS_4 : Sk := ⟨[(0, .v false [(.sl 207 h_2, .ro)]), (1, .v false [(.sl 207 h_2, .ro)]), (5, .v false [(.int .i64, .nil)])], [], []⟩
def X_l_eqCreditS_4 : List (Ex × Sk) := [(.ret, ⟨[(4, .v false [(.bool, .nil)])], [], []⟩), ((.exit 0), ⟨[], [], []⟩)]
def Q_l_eqCreditS : Loops := fun i st => cond (Nat.beq i 4) (lam K_l_eqCreditS_4 5000000 X_l_eqCreditS_4 B_l_eqCreditS_4 st) <| .fail
theorem lp_l_eqCreditS_4 : ∀ d, bod ⟨lookT tys, ctrOf C_l_eqCreditS, kindOf C_l_eqCreditS, 3, 4⟩ 0 Try.f97.ntmps Q_l_eqCreditS (nthLoop Try.f97 0) K_l_eqCreditS_4 5000000 X_l_eqCreditS_4 d = B_l_eqCreditS_4 d := fun d => by kernel_rfl
theorem lo_l_eqCreditS_4 (cx : Cx) (hp : cx.pin.length ≤ 0) : LoopOk Try.prog cx Try.f97.ntmps Q_l_eqCreditS (nthLoop Try.f97 0) := loop_of (cfgOk_of mixed tys_ok (show FnsOk Try.prog C_l_eqCreditS from ⟨fn_l_eqCredit, trivial⟩)) hp (all_of (by kernel_rfl : loopsOf (nthLoop Try.f97 0) = []) trivial) (by kernel_rfl) lp_l_eqCreditS_4
theorem e_l_eqCreditS : ∀ d, pcall ⟨lookT tys, ctrOf C_l_eqCreditS, kindOf C_l_eqCreditS, 3, 4⟩ 0 Q_l_eqCreditS Try.f97 .plain (mkA P_l_eqCreditS d) = (T_l_eqCreditS d.1 d.2.1).run fun r => some (O_l_eqCreditS r) := fun d => by kernel_rfl
theorem fn_l_eqCreditS : Fn Try.prog 97 .plain F_l_eqCreditS := fn_of (cfgOk_of mixed tys_ok (show FnsOk Try.prog C_l_eqCreditS from ⟨fn_l_eqCredit, trivial⟩)) Try.func97 (by kernel_rfl) (by kernel_rfl) (fun cx b hp hb => all_of (by kernel_rfl : loopsOf (Try.f97.body.getD .skip) = [nthLoop Try.f97 0]) ⟨lo_l_eqCreditS_4 cx hp, trivial⟩ b hb) (R := (Bool × Unit)) (T := fun (d : aden P_l_eqCreditS) => T_l_eqCreditS d.1 d.2.1) e_l_eqCreditS
def P_l_eqServer : List (Bool × List Sh) := [(true, h_16), (true, h_16)]
def O_l_eqServer (r : (Bool × Unit)) : List RV × List RV := ([rv (false, [.bool]) r], [])
def C_l_eqServer : Fns := [(47, .plain, F_l_eqByteSS), (94, .plain, F_l_eqJar), (95, .plain, F_l_eqDice), (96, .plain, F_l_eqTab), (97, .plain, F_l_eqCreditS)]
def F_l_eqServer : Fun1 := funV P_l_eqServer (fun d => (T_l_eqServer d.1 d.2.1).val) O_l_eqServer
def Q_l_eqServer : Loops := fun _ _ => .fail
theorem e_l_eqServer : ∀ d, pcall ⟨lookT tys, ctrOf C_l_eqServer, kindOf C_l_eqServer, 3, 4⟩ 0 Q_l_eqServer Try.f22 .plain (mkA P_l_eqServer d) = (T_l_eqServer d.1 d.2.1).run fun r => some (O_l_eqServer r) := fun d => by kernel_rfl
theorem fn_l_eqServer : Fn Try.prog 22 .plain F_l_eqServer := fn_of (cfgOk_of mixed tys_ok (show FnsOk Try.prog C_l_eqServer from ⟨fn_l_eqByteSS, fn_l_eqJar, fn_l_eqDice, fn_l_eqTab, fn_l_eqCreditS, trivial⟩)) Try.func22 (by kernel_rfl) (by kernel_rfl) (fun cx b hp hb => all_of (by kernel_rfl : loopsOf (Try.f22.body.getD .skip) = []) trivial b hb) (R := (Bool × Unit)) (T := fun (d : aden P_l_eqServer) => T_l_eqServer d.1 d.2.1) e_l_eqServer
def P_l_FnExactServerOk : List (Bool × List Sh) := [(true, h_15)]
def O_l_FnExactServerOk (r : (Bool × Unit)) : List RV × List RV := ([rv (false, [.bool]) r], [])
def C_l_FnExactServerOk : Fns := [(18, .plain, F_l_szServer), (20, .plain, F_l_toServer), (19, .plain, F_s_ServerOk), (21, .plain, F_i_ServerOk), (22, .plain, F_l_eqServer)]
def F_l_FnExactServerOk : Fun1 := funV P_l_FnExactServerOk (fun d => (T_l_FnExactServerOk d.1).val) O_l_FnExactServerOk
def Q_l_FnExactServerOk : Loops := fun _ _ => .fail
theorem e_l_FnExactServerOk : ∀ d, pcall ⟨lookT tys, ctrOf C_l_FnExactServerOk, kindOf C_l_FnExactServerOk, 3, 4⟩ 0 Q_l_FnExactServerOk Try.f5 .plain (mkA P_l_FnExactServerOk d) = (T_l_FnExactServerOk d.1).run fun r => some (O_l_FnExactServerOk r) := fun d => by kernel_rfl
theorem fn_l_FnExactServerOk : Fn Try.prog 5 .plain F_l_FnExactServerOk := fn_of (cfgOk_of mixed tys_ok (show FnsOk Try.prog C_l_FnExactServerOk from ⟨fn_l_szServer, fn_l_toServer, fn_s_ServerOk, fn_i_ServerOk, fn_l_eqServer, trivial⟩)) Try.func5 (by kernel_rfl) (by kernel_rfl) (fun cx b hp hb => all_of (by kernel_rfl : loopsOf (Try.f5.body.getD .skip) = []) trivial b hb) (R := (Bool × Unit)) (T := fun (d : aden P_l_FnExactServerOk) => T_l_FnExactServerOk d.1) e_l_FnExactServerOk
def P_l_szFrame : List (Bool × List Sh) := [(true, h_11), (false, [.int .i64])]
def O_l_szFrame (r : (YI)) : List RV × List RV := ([rv (false, [.int .i64]) r], [])
def C_l_szFrame : Fns := [(53, .plain, F_l_szByteS)]
def F_l_szFrame : Fun1 := funV P_l_szFrame (fun d => (T_l_szFrame d.1 d.2.1).val) O_l_szFrame
def Q_l_szFrame : Loops := fun _ _ => .fail
theorem e_l_szFrame : ∀ d, pcall ⟨lookT tys, ctrOf C_l_szFrame, kindOf C_l_szFrame, 3, 4⟩ 0 Q_l_szFrame Try.f98 .plain (mkA P_l_szFrame d) = (T_l_szFrame d.1 d.2.1).run fun r => some (O_l_szFrame r) := fun d => by kernel_rfl
theorem fn_l_szFrame : Fn Try.prog 98 .plain F_l_szFrame := fn_of (cfgOk_of mixed tys_ok (show FnsOk Try.prog C_l_szFrame from ⟨fn_l_szByteS, trivial⟩)) Try.func98 (by kernel_rfl) (by kernel_rfl) (fun cx b hp hb => all_of (by kernel_rfl : loopsOf (Try.f98.body.getD .skip) = []) trivial b hb) (R := (YI)) (T := fun (d : aden P_l_szFrame) => T_l_szFrame d.1 d.2.1) e_l_szFrame
def P_l_szClient : List (Bool × List Sh) := [(true, h_17), (false, [.int .i64])]
def O_l_szClient (r : (YI)) : List RV × List RV := ([rv (false, [.int .i64]) r], [])
def C_l_szClient : Fns := [(53, .plain, F_l_szByteS), (98, .plain, F_l_szFrame), (54, .plain, F_l_szChan)]
def F_l_szClient : Fun1 := funV P_l_szClient (fun d => (T_l_szClient d.1 d.2.1).val) O_l_szClient
def Q_l_szClient : Loops := fun _ _ => .fail
theorem e_l_szClient : ∀ d, pcall ⟨lookT tys, ctrOf C_l_szClient, kindOf C_l_szClient, 3, 4⟩ 0 Q_l_szClient Try.f23 .plain (mkA P_l_szClient d) = (T_l_szClient d.1 d.2.1).run fun r => some (O_l_szClient r) := fun d => by kernel_rfl
theorem fn_l_szClient : Fn Try.prog 23 .plain F_l_szClient := fn_of (cfgOk_of mixed tys_ok (show FnsOk Try.prog C_l_szClient from ⟨fn_l_szByteS, fn_l_szFrame, fn_l_szChan, trivial⟩)) Try.func23 (by kernel_rfl) (by kernel_rfl) (fun cx b hp hb => all_of (by kernel_rfl : loopsOf (Try.f23.body.getD .skip) = []) trivial b hb) (R := (YI)) (T := fun (d : aden P_l_szClient) => T_l_szClient d.1 d.2.1) e_l_szClient
def P_l_toFrame : List (Bool × List Sh) := [(true, h_11)]
def O_l_toFrame (r : (YFrame)) : List RV × List RV := ([rv (true, h_11) r], [])
def C_l_toFrame : Fns := [(58, .plain, F_l_toByteS)]
def F_l_toFrame : Fun1 := funV P_l_toFrame (fun d => (T_l_toFrame d.1).val) O_l_toFrame
def Q_l_toFrame : Loops := fun _ _ => .fail
theorem e_l_toFrame : ∀ d, pcall ⟨lookT tys, ctrOf C_l_toFrame, kindOf C_l_toFrame, 3, 4⟩ 0 Q_l_toFrame Try.f102 .plain (mkA P_l_toFrame d) = (T_l_toFrame d.1).run fun r => some (O_l_toFrame r) := fun d => by kernel_rfl
theorem fn_l_toFrame : Fn Try.prog 102 .plain F_l_toFrame := fn_of (cfgOk_of mixed tys_ok (show FnsOk Try.prog C_l_toFrame from ⟨fn_l_toByteS, trivial⟩)) Try.func102 (by kernel_rfl) (by kernel_rfl) (fun cx b hp hb => all_of (by kernel_rfl : loopsOf (Try.f102.body.getD .skip) = []) trivial b hb) (R := (YFrame)) (T := fun (d : aden P_l_toFrame) => T_l_toFrame d.1) e_l_toFrame
def P_l_toTimer : List (Bool × List Sh) := [(true, h_1)]
def O_l_toTimer (r : (YTimer)) : List RV × List RV := ([rv (true, h_1) r], [])
def C_l_toTimer : Fns := []
def F_l_toTimer : Fun1 := funV P_l_toTimer (fun d => (T_l_toTimer d.1).val) O_l_toTimer
def Q_l_toTimer : Loops := fun _ _ => .fail
theorem e_l_toTimer : ∀ d, pcall ⟨lookT tys, ctrOf C_l_toTimer, kindOf C_l_toTimer, 3, 4⟩ 0 Q_l_toTimer Try.f103 .plain (mkA P_l_toTimer d) = (T_l_toTimer d.1).run fun r => some (O_l_toTimer r) := fun d => by kernel_rfl
theorem fn_l_toTimer : Fn Try.prog 103 .plain F_l_toTimer := fn_of (cfgOk_of mixed tys_ok (show FnsOk Try.prog C_l_toTimer from trivial)) Try.func103 (by kernel_rfl) (by kernel_rfl) (fun cx b hp hb => all_of (by kernel_rfl : loopsOf (Try.f103.body.getD .skip) = []) trivial b hb) (R := (YTimer)) (T := fun (d : aden P_l_toTimer) => T_l_toTimer d.1) e_l_toTimer
def P_l_toClient : List (Bool × List Sh) := [(true, h_17)]
def O_l_toClient (r : (YClient)) : List RV × List RV := ([rv (true, h_17) r], [])
def C_l_toClient : Fns := [(58, .plain, F_l_toByteS), (34, .plain, F_l_toAddr), (102, .plain, F_l_toFrame), (59, .plain, F_l_toChan), (103, .plain, F_l_toTimer)]
def F_l_toClient : Fun1 := funV P_l_toClient (fun d => (T_l_toClient d.1).val) O_l_toClient
def Q_l_toClient : Loops := fun _ _ => .fail
theorem e_l_toClient : ∀ d, pcall ⟨lookT tys, ctrOf C_l_toClient, kindOf C_l_toClient, 3, 4⟩ 0 Q_l_toClient Try.f25 .plain (mkA P_l_toClient d) = (T_l_toClient d.1).run fun r => some (O_l_toClient r) := fun d => by kernel_rfl
theorem fn_l_toClient : Fn Try.prog 25 .plain F_l_toClient := fn_of (cfgOk_of mixed tys_ok (show FnsOk Try.prog C_l_toClient from ⟨fn_l_toByteS, fn_l_toAddr, fn_l_toFrame, fn_l_toChan, fn_l_toTimer, trivial⟩)) Try.func25 (by kernel_rfl) (by kernel_rfl) (fun cx b hp hb => all_of (by kernel_rfl : loopsOf (Try.f25.body.getD .skip) = []) trivial b hb) (R := (YClient)) (T := fun (d : aden P_l_toClient) => T_l_toClient d.1) e_l_toClient
def P_s_TimerOk : List (Bool × List Sh) := [(true, h_1)]
def O_s_TimerOk (r : (Bool × Unit)) : List RV × List RV := ([rv (false, [.bool]) r], [])
def C_s_TimerOk : Fns := [(70, .plain, F_s_l1In)]
def F_s_TimerOk : Fun1 := funV P_s_TimerOk (fun d => (T_s_TimerOk d.1).val) O_s_TimerOk
def Q_s_TimerOk : Loops := fun _ _ => .fail
theorem e_s_TimerOk : ∀ d, pcall ⟨lookT tys, ctrOf C_s_TimerOk, kindOf C_s_TimerOk, 3, 4⟩ 0 Q_s_TimerOk Try.f168 .plain (mkA P_s_TimerOk d) = (T_s_TimerOk d.1).run fun r => some (O_s_TimerOk r) := fun d => by kernel_rfl
theorem fn_s_TimerOk : Fn Try.prog 168 .plain F_s_TimerOk := fn_of (cfgOk_of mixed tys_ok (show FnsOk Try.prog C_s_TimerOk from ⟨fn_s_l1In, trivial⟩)) Try.func168 (by kernel_rfl) (by kernel_rfl) (fun cx b hp hb => all_of (by kernel_rfl : loopsOf (Try.f168.body.getD .skip) = []) trivial b hb) (R := (Bool × Unit)) (T := fun (d : aden P_s_TimerOk) => T_s_TimerOk d.1) e_s_TimerOk
def P_s_l19NoFrame : List (Bool × List Sh) := [(true, h_11)]
def O_s_l19NoFrame (r : (Bool × Unit)) : List RV × List RV := ([rv (false, [.bool]) r], [])
def C_s_l19NoFrame : Fns := []
def F_s_l19NoFrame : Fun1 := funV P_s_l19NoFrame (fun d => (T_s_l19NoFrame d.1).val) O_s_l19NoFrame
def Q_s_l19NoFrame : Loops := fun _ _ => .fail
theorem e_s_l19NoFrame : ∀ d, pcall ⟨lookT tys, ctrOf C_s_l19NoFrame, kindOf C_s_l19NoFrame, 3, 4⟩ 0 Q_s_l19NoFrame Try.f169 .plain (mkA P_s_l19NoFrame d) = (T_s_l19NoFrame d.1).run fun r => some (O_s_l19NoFrame r) := fun d => by kernel_rfl
theorem fn_s_l19NoFrame : Fn Try.prog 169 .plain F_s_l19NoFrame := fn_of (cfgOk_of mixed tys_ok (show FnsOk Try.prog C_s_l19NoFrame from trivial)) Try.func169 (by kernel_rfl) (by kernel_rfl) (fun cx b hp hb => all_of (by kernel_rfl : loopsOf (Try.f169.body.getD .skip) = []) trivial b hb) (R := (Bool × Unit)) (T := fun (d : aden P_s_l19NoFrame) => T_s_l19NoFrame d.1) e_s_l19NoFrame
def P_s_Sealed : List (Bool × List Sh) := [(false, [.int .i64])]
def O_s_Sealed (r : (Bool × Unit)) : List RV × List RV := ([rv (false, [.bool]) r], [])
def C_s_Sealed : Fns := [(70, .plain, F_s_l1In)]
def F_s_Sealed : Fun1 := funV P_s_Sealed (fun d => (T_s_Sealed d.1).val) O_s_Sealed
def Q_s_Sealed : Loops := fun _ _ => .fail
theorem e_s_Sealed : ∀ d, pcall ⟨lookT tys, ctrOf C_s_Sealed, kindOf C_s_Sealed, 3, 4⟩ 0 Q_s_Sealed Try.f205 .plain (mkA P_s_Sealed d) = (T_s_Sealed d.1).run fun r => some (O_s_Sealed r) := fun d => by kernel_rfl
theorem fn_s_Sealed : Fn Try.prog 205 .plain F_s_Sealed := fn_of (cfgOk_of mixed tys_ok (show FnsOk Try.prog C_s_Sealed from ⟨fn_s_l1In, trivial⟩)) Try.func205 (by kernel_rfl) (by kernel_rfl) (fun cx b hp hb => all_of (by kernel_rfl : loopsOf (Try.f205.body.getD .skip) = []) trivial b hb) (R := (Bool × Unit)) (T := fun (d : aden P_s_Sealed) => T_s_Sealed d.1) e_s_Sealed
def P_s_l7Body : List (Bool × List Sh) := [(false, [.int .i64]), (false, [.int .i64])]
def O_s_l7Body (r : (Bool × Unit)) : List RV × List RV := ([rv (false, [.bool]) r], [])
def C_s_l7Body : Fns := []
def F_s_l7Body : Fun1 := funV P_s_l7Body (fun d => (T_s_l7Body d.1 d.2.1).val) O_s_l7Body
def Q_s_l7Body : Loops := fun _ _ => .fail
theorem e_s_l7Body : ∀ d, pcall ⟨lookT tys, ctrOf C_s_l7Body, kindOf C_s_l7Body, 3, 4⟩ 0 Q_s_l7Body Try.f206 .plain (mkA P_s_l7Body d) = (T_s_l7Body d.1 d.2.1).run fun r => some (O_s_l7Body r) := fun d => by kernel_rfl
theorem fn_s_l7Body : Fn Try.prog 206 .plain F_s_l7Body := fn_of (cfgOk_of mixed tys_ok (show FnsOk Try.prog C_s_l7Body from trivial)) Try.func206 (by kernel_rfl) (by kernel_rfl) (fun cx b hp hb => all_of (by kernel_rfl : loopsOf (Try.f206.body.getD .skip) = []) trivial b hb) (R := (Bool × Unit)) (T := fun (d : aden P_s_l7Body) => T_s_l7Body d.1 d.2.1) e_s_l7Body
def P_s_FrameOk : List (Bool × List Sh) := [(true, h_11)]
def O_s_FrameOk (r : (Bool × Unit)) : List RV × List RV := ([rv (false, [.bool]) r], [])
def C_s_FrameOk : Fns := [(205, .plain, F_s_Sealed), (70, .plain, F_s_l1In), (206, .plain, F_s_l7Body)]
def F_s_FrameOk : Fun1 := funV P_s_FrameOk (fun d => (T_s_FrameOk d.1).val) O_s_FrameOk
def Q_s_FrameOk : Loops := fun _ _ => .fail
theorem e_s_FrameOk : ∀ d, pcall ⟨lookT tys, ctrOf C_s_FrameOk, kindOf C_s_FrameOk, 3, 4⟩ 0 Q_s_FrameOk Try.f170 .plain (mkA P_s_FrameOk d) = (T_s_FrameOk d.1).run fun r => some (O_s_FrameOk r) := fun d => by kernel_rfl
theorem fn_s_FrameOk : Fn Try.prog 170 .plain F_s_FrameOk := fn_of (cfgOk_of mixed tys_ok (show FnsOk Try.prog C_s_FrameOk from ⟨fn_s_Sealed, fn_s_l1In, fn_s_l7Body, trivial⟩)) Try.func170 (by kernel_rfl) (by kernel_rfl) (fun cx b hp hb => all_of (by kernel_rfl : loopsOf (Try.f170.body.getD .skip) = []) trivial b hb) (R := (Bool × Unit)) (T := fun (d : aden P_s_FrameOk) => T_s_FrameOk d.1) e_s_FrameOk
def P_s_ClientOk : List (Bool × List Sh) := [(true, h_17)]
def O_s_ClientOk (r : (Bool × Unit)) : List RV × List RV := ([rv (false, [.bool]) r], [])
def C_s_ClientOk : Fns := [(70, .plain, F_s_l1In), (84, .plain, F_s_PskOk), (114, .plain, F_s_AddrOk), (168, .plain, F_s_TimerOk), (169, .plain, F_s_l19NoFrame), (134, .plain, F_s_l19NoChan), (136, .plain, F_s_ChanOk), (170, .plain, F_s_FrameOk), (137, .plain, F_s_l1Same)]
def F_s_ClientOk : Fun1 := funV P_s_ClientOk (fun d => (T_s_ClientOk d.1).val) O_s_ClientOk
def Q_s_ClientOk : Loops := fun _ _ => .fail
theorem e_s_ClientOk : ∀ d, pcall ⟨lookT tys, ctrOf C_s_ClientOk, kindOf C_s_ClientOk, 3, 4⟩ 0 Q_s_ClientOk Try.f99 .plain (mkA P_s_ClientOk d) = (T_s_ClientOk d.1).run fun r => some (O_s_ClientOk r) := fun d => by kernel_rfl
theorem fn_s_ClientOk : Fn Try.prog 99 .plain F_s_ClientOk := fn_of (cfgOk_of mixed tys_ok (show FnsOk Try.prog C_s_ClientOk from ⟨fn_s_l1In, fn_s_PskOk, fn_s_AddrOk, fn_s_TimerOk, fn_s_l19NoFrame, fn_s_l19NoChan, fn_s_ChanOk, fn_s_FrameOk, fn_s_l1Same, trivial⟩)) Try.func99 (by kernel_rfl) (by kernel_rfl) (fun cx b hp hb => all_of (by kernel_rfl : loopsOf (Try.f99.body.getD .skip) = []) trivial b hb) (R := (Bool × Unit)) (T := fun (d : aden P_s_ClientOk) => T_s_ClientOk d.1) e_s_ClientOk
def P_s_l7Copy : List (Bool × List Sh) := [(true, h_11)]
def O_s_l7Copy (r : (YFrame)) : List RV × List RV := ([rv (true, h_11) r], [])
def C_s_l7Copy : Fns := []
def F_s_l7Copy : Fun1 := funV P_s_l7Copy (fun d => (T_s_l7Copy d.1).val) O_s_l7Copy
def Q_s_l7Copy : Loops := fun _ _ => .fail
theorem e_s_l7Copy : ∀ d, pcall ⟨lookT tys, ctrOf C_s_l7Copy, kindOf C_s_l7Copy, 3, 4⟩ 0 Q_s_l7Copy Try.f171 .plain (mkA P_s_l7Copy d) = (T_s_l7Copy d.1).run fun r => some (O_s_l7Copy r) := fun d => by kernel_rfl
theorem fn_s_l7Copy : Fn Try.prog 171 .plain F_s_l7Copy := fn_of (cfgOk_of mixed tys_ok (show FnsOk Try.prog C_s_l7Copy from trivial)) Try.func171 (by kernel_rfl) (by kernel_rfl) (fun cx b hp hb => all_of (by kernel_rfl : loopsOf (Try.f171.body.getD .skip) = []) trivial b hb) (R := (YFrame)) (T := fun (d : aden P_s_l7Copy) => T_s_l7Copy d.1) e_s_l7Copy
def P_s_l19Copy : List (Bool × List Sh) := [(true, h_17)]
def O_s_l19Copy (r : (YClient)) : List RV × List RV := ([rv (true, h_17) r], [])
def C_s_l19Copy : Fns := [(171, .plain, F_s_l7Copy), (139, .plain, F_s_l14Copy)]
def F_s_l19Copy : Fun1 := funV P_s_l19Copy (fun d => (T_s_l19Copy d.1).val) O_s_l19Copy
def Q_s_l19Copy : Loops := fun _ _ => .fail
theorem e_s_l19Copy : ∀ d, pcall ⟨lookT tys, ctrOf C_s_l19Copy, kindOf C_s_l19Copy, 3, 4⟩ 0 Q_s_l19Copy Try.f100 .plain (mkA P_s_l19Copy d) = (T_s_l19Copy d.1).run fun r => some (O_s_l19Copy r) := fun d => by kernel_rfl
theorem fn_s_l19Copy : Fn Try.prog 100 .plain F_s_l19Copy := fn_of (cfgOk_of mixed tys_ok (show FnsOk Try.prog C_s_l19Copy from ⟨fn_s_l7Copy, fn_s_l14Copy, trivial⟩)) Try.func100 (by kernel_rfl) (by kernel_rfl) (fun cx b hp hb => all_of (by kernel_rfl : loopsOf (Try.f100.body.getD .skip) = []) trivial b hb) (R := (YClient)) (T := fun (d : aden P_s_l19Copy) => T_s_l19Copy d.1) e_s_l19Copy
def P_s_ClientNew : List (Bool × List Sh) := [(false, [.int .i64]), (false, [.sl 5 [.int .u8]]), (true, [.int .i64, .int .i64])]
def O_s_ClientNew (r : (YClient)) : List RV × List RV := ([rv (true, h_17) r], [])
def C_s_ClientNew : Fns := [(70, .plain, F_s_l1In), (84, .plain, F_s_PskOk), (114, .plain, F_s_AddrOk)]
def F_s_ClientNew : Fun1 := funV P_s_ClientNew (fun d => (T_s_ClientNew d.1 d.2.1 d.2.2.1).val) O_s_ClientNew
def Q_s_ClientNew : Loops := fun _ _ => .fail
theorem e_s_ClientNew : ∀ d, pcall ⟨lookT tys, ctrOf C_s_ClientNew, kindOf C_s_ClientNew, 3, 4⟩ 0 Q_s_ClientNew Try.f172 .plain (mkA P_s_ClientNew d) = (T_s_ClientNew d.1 d.2.1 d.2.2.1).run fun r => some (O_s_ClientNew r) := fun d => by kernel_rfl
theorem fn_s_ClientNew : Fn Try.prog 172 .plain F_s_ClientNew := fn_of (cfgOk_of mixed tys_ok (show FnsOk Try.prog C_s_ClientNew from ⟨fn_s_l1In, fn_s_PskOk, fn_s_AddrOk, trivial⟩)) Try.func172 (by kernel_rfl) (by kernel_rfl) (fun cx b hp hb => all_of (by kernel_rfl : loopsOf (Try.f172.body.getD .skip) = []) trivial b hb) (R := (YClient)) (T := fun (d : aden P_s_ClientNew) => T_s_ClientNew d.1 d.2.1 d.2.2.1) e_s_ClientNew
def P_s_l19Idle : List (Bool × List Sh) := [(true, h_17)]
def O_s_l19Idle (r : (YClient)) : List RV × List RV := ([rv (true, h_17) r], [])
def C_s_l19Idle : Fns := [(172, .plain, F_s_ClientNew)]
def F_s_l19Idle : Fun1 := funV P_s_l19Idle (fun d => (T_s_l19Idle d.1).val) O_s_l19Idle
def Q_s_l19Idle : Loops := fun _ _ => .fail
theorem e_s_l19Idle : ∀ d, pcall ⟨lookT tys, ctrOf C_s_l19Idle, kindOf C_s_l19Idle, 3, 4⟩ 0 Q_s_l19Idle Try.f101 .plain (mkA P_s_l19Idle d) = (T_s_l19Idle d.1).run fun r => some (O_s_l19Idle r) := fun d => by kernel_rfl
theorem fn_s_l19Idle : Fn Try.prog 101 .plain F_s_l19Idle := fn_of (cfgOk_of mixed tys_ok (show FnsOk Try.prog C_s_l19Idle from ⟨fn_s_ClientNew, trivial⟩)) Try.func101 (by kernel_rfl) (by kernel_rfl) (fun cx b hp hb => all_of (by kernel_rfl : loopsOf (Try.f101.body.getD .skip) = []) trivial b hb) (R := (YClient)) (T := fun (d : aden P_s_l19Idle) => T_s_l19Idle d.1) e_s_l19Idle
def P_s_Hang : List (Bool × List Sh) := [(true, h_17)]
def O_s_Hang (r : (YClient) × ((List YNote) × Unit)) : List RV × List RV := ([rv (true, h_17) r.1, rv (false, [.sl 157 h_10]) r.2], [])
def C_s_Hang : Fns := [(99, .plain, F_s_ClientOk), (100, .plain, F_s_l19Copy), (101, .plain, F_s_l19Idle)]
def F_s_Hang : Fun1 := funV P_s_Hang (fun d => (T_s_Hang d.1).val) O_s_Hang
def Q_s_Hang : Loops := fun _ _ => .fail
theorem e_s_Hang : ∀ d, pcall ⟨lookT tys, ctrOf C_s_Hang, kindOf C_s_Hang, 3, 4⟩ 0 Q_s_Hang Try.f24 .plain (mkA P_s_Hang d) = (T_s_Hang d.1).run fun r => some (O_s_Hang r) := fun d => by kernel_rfl
theorem fn_s_Hang : Fn Try.prog 24 .plain F_s_Hang := fn_of (cfgOk_of mixed tys_ok (show FnsOk Try.prog C_s_Hang from ⟨fn_s_ClientOk, fn_s_l19Copy, fn_s_l19Idle, trivial⟩)) Try.func24 (by kernel_rfl) (by kernel_rfl) (fun cx b hp hb => all_of (by kernel_rfl : loopsOf (Try.f24.body.getD .skip) = []) trivial b hb) (R := (YClient) × ((List YNote) × Unit)) (T := fun (d : aden P_s_Hang) => T_s_Hang d.1) e_s_Hang
def P_i_sameFrame : List (Bool × List Sh) := [(true, h_11), (true, h_11)]
def O_i_sameFrame (r : (Bool × Unit)) : List RV × List RV := ([rv (false, [.bool]) r], [])
def C_i_sameFrame : Fns := [(146, .plain, F_bytes_Equal)]
def F_i_sameFrame : Fun1 := funV P_i_sameFrame (fun d => (T_i_sameFrame d.1 d.2.1).val) O_i_sameFrame
def Q_i_sameFrame : Loops := fun _ _ => .fail
theorem e_i_sameFrame : ∀ d, pcall ⟨lookT tys, ctrOf C_i_sameFrame, kindOf C_i_sameFrame, 3, 4⟩ 0 Q_i_sameFrame Try.f173 .plain (mkA P_i_sameFrame d) = (T_i_sameFrame d.1 d.2.1).run fun r => some (O_i_sameFrame r) := fun d => by kernel_rfl
theorem fn_i_sameFrame : Fn Try.prog 173 .plain F_i_sameFrame := fn_of (cfgOk_of mixed tys_ok (show FnsOk Try.prog C_i_sameFrame from ⟨fn_bytes_Equal, trivial⟩)) Try.func173 (by kernel_rfl) (by kernel_rfl) (fun cx b hp hb => all_of (by kernel_rfl : loopsOf (Try.f173.body.getD .skip) = []) trivial b hb) (R := (Bool × Unit)) (T := fun (d : aden P_i_sameFrame) => T_i_sameFrame d.1 d.2.1) e_i_sameFrame
def P_i_TimerOk : List (Bool × List Sh) := [(true, h_1)]
def O_i_TimerOk (r : (Bool × Unit)) : List RV × List RV := ([rv (false, [.bool]) r], [])
def C_i_TimerOk : Fns := [(73, .plain, F_i_within)]
def F_i_TimerOk : Fun1 := funV P_i_TimerOk (fun d => (T_i_TimerOk d.1).val) O_i_TimerOk
def Q_i_TimerOk : Loops := fun _ _ => .fail
theorem e_i_TimerOk : ∀ d, pcall ⟨lookT tys, ctrOf C_i_TimerOk, kindOf C_i_TimerOk, 3, 4⟩ 0 Q_i_TimerOk Try.f174 .plain (mkA P_i_TimerOk d) = (T_i_TimerOk d.1).run fun r => some (O_i_TimerOk r) := fun d => by kernel_rfl
theorem fn_i_TimerOk : Fn Try.prog 174 .plain F_i_TimerOk := fn_of (cfgOk_of mixed tys_ok (show FnsOk Try.prog C_i_TimerOk from ⟨fn_i_within, trivial⟩)) Try.func174 (by kernel_rfl) (by kernel_rfl) (fun cx b hp hb => all_of (by kernel_rfl : loopsOf (Try.f174.body.getD .skip) = []) trivial b hb) (R := (Bool × Unit)) (T := fun (d : aden P_i_TimerOk) => T_i_TimerOk d.1) e_i_TimerOk
def P_i_Sealed : List (Bool × List Sh) := [(false, [.int .i64])]
def O_i_Sealed (r : (Bool × Unit)) : List RV × List RV := ([rv (false, [.bool]) r], [])
def C_i_Sealed : Fns := [(73, .plain, F_i_within)]
def F_i_Sealed : Fun1 := funV P_i_Sealed (fun d => (T_i_Sealed d.1).val) O_i_Sealed
def Q_i_Sealed : Loops := fun _ _ => .fail
theorem e_i_Sealed : ∀ d, pcall ⟨lookT tys, ctrOf C_i_Sealed, kindOf C_i_Sealed, 3, 4⟩ 0 Q_i_Sealed Try.f228 .plain (mkA P_i_Sealed d) = (T_i_Sealed d.1).run fun r => some (O_i_Sealed r) := fun d => by kernel_rfl
theorem fn_i_Sealed : Fn Try.prog 228 .plain F_i_Sealed := fn_of (cfgOk_of mixed tys_ok (show FnsOk Try.prog C_i_Sealed from ⟨fn_i_within, trivial⟩)) Try.func228 (by kernel_rfl) (by kernel_rfl) (fun cx b hp hb => all_of (by kernel_rfl : loopsOf (Try.f228.body.getD .skip) = []) trivial b hb) (R := (Bool × Unit)) (T := fun (d : aden P_i_Sealed) => T_i_Sealed d.1) e_i_Sealed
def P_i_bodyOk : List (Bool × List Sh) := [(false, [.int .i64]), (false, [.int .i64])]
def O_i_bodyOk (r : (Bool × Unit)) : List RV × List RV := ([rv (false, [.bool]) r], [])
def C_i_bodyOk : Fns := []
def F_i_bodyOk : Fun1 := funV P_i_bodyOk (fun d => (T_i_bodyOk d.1 d.2.1).val) O_i_bodyOk
def Q_i_bodyOk : Loops := fun _ _ => .fail
theorem e_i_bodyOk : ∀ d, pcall ⟨lookT tys, ctrOf C_i_bodyOk, kindOf C_i_bodyOk, 3, 4⟩ 0 Q_i_bodyOk Try.f229 .plain (mkA P_i_bodyOk d) = (T_i_bodyOk d.1 d.2.1).run fun r => some (O_i_bodyOk r) := fun d => by kernel_rfl
theorem fn_i_bodyOk : Fn Try.prog 229 .plain F_i_bodyOk := fn_of (cfgOk_of mixed tys_ok (show FnsOk Try.prog C_i_bodyOk from trivial)) Try.func229 (by kernel_rfl) (by kernel_rfl) (fun cx b hp hb => all_of (by kernel_rfl : loopsOf (Try.f229.body.getD .skip) = []) trivial b hb) (R := (Bool × Unit)) (T := fun (d : aden P_i_bodyOk) => T_i_bodyOk d.1 d.2.1) e_i_bodyOk
def P_i_FrameOk : List (Bool × List Sh) := [(true, h_11)]
def O_i_FrameOk (r : (Bool × Unit)) : List RV × List RV := ([rv (false, [.bool]) r], [])
def C_i_FrameOk : Fns := [(73, .plain, F_i_within), (143, .plain, F_i_isNonce), (228, .plain, F_i_Sealed), (229, .plain, F_i_bodyOk), (173, .plain, F_i_sameFrame)]
def F_i_FrameOk : Fun1 := funV P_i_FrameOk (fun d => (T_i_FrameOk d.1).val) O_i_FrameOk
def Q_i_FrameOk : Loops := fun _ _ => .fail
theorem e_i_FrameOk : ∀ d, pcall ⟨lookT tys, ctrOf C_i_FrameOk, kindOf C_i_FrameOk, 3, 4⟩ 0 Q_i_FrameOk Try.f207 .plain (mkA P_i_FrameOk d) = (T_i_FrameOk d.1).run fun r => some (O_i_FrameOk r) := fun d => by kernel_rfl
theorem fn_i_FrameOk : Fn Try.prog 207 .plain F_i_FrameOk := fn_of (cfgOk_of mixed tys_ok (show FnsOk Try.prog C_i_FrameOk from ⟨fn_i_within, fn_i_isNonce, fn_i_Sealed, fn_i_bodyOk, fn_i_sameFrame, trivial⟩)) Try.func207 (by kernel_rfl) (by kernel_rfl) (fun cx b hp hb => all_of (by kernel_rfl : loopsOf (Try.f207.body.getD .skip) = []) trivial b hb) (R := (Bool × Unit)) (T := fun (d : aden P_i_FrameOk) => T_i_FrameOk d.1) e_i_FrameOk
def P_i_finishOk : List (Bool × List Sh) := [(true, h_17)]
def O_i_finishOk (r : (Bool × Unit)) : List RV × List RV := ([rv (false, [.bool]) r], [])
def C_i_finishOk : Fns := [(143, .plain, F_i_isNonce), (207, .plain, F_i_FrameOk), (146, .plain, F_bytes_Equal), (145, .plain, F_i_ChanOk)]
def F_i_finishOk : Fun1 := funV P_i_finishOk (fun d => (T_i_finishOk d.1).val) O_i_finishOk
def Q_i_finishOk : Loops := fun _ _ => .fail
theorem e_i_finishOk : ∀ d, pcall ⟨lookT tys, ctrOf C_i_finishOk, kindOf C_i_finishOk, 3, 4⟩ 0 Q_i_finishOk Try.f175 .plain (mkA P_i_finishOk d) = (T_i_finishOk d.1).run fun r => some (O_i_finishOk r) := fun d => by kernel_rfl
theorem fn_i_finishOk : Fn Try.prog 175 .plain F_i_finishOk := fn_of (cfgOk_of mixed tys_ok (show FnsOk Try.prog C_i_finishOk from ⟨fn_i_isNonce, fn_i_FrameOk, fn_bytes_Equal, fn_i_ChanOk, trivial⟩)) Try.func175 (by kernel_rfl) (by kernel_rfl) (fun cx b hp hb => all_of (by kernel_rfl : loopsOf (Try.f175.body.getD .skip) = []) trivial b hb) (R := (Bool × Unit)) (T := fun (d : aden P_i_finishOk) => T_i_finishOk d.1) e_i_finishOk
def P_i_ClientOk : List (Bool × List Sh) := [(true, h_17)]
def O_i_ClientOk (r : (Bool × Unit)) : List RV × List RV := ([rv (false, [.bool]) r], [])
def C_i_ClientOk : Fns := [(73, .plain, F_i_within), (93, .plain, F_i_PskOk), (115, .plain, F_i_AddrOk), (173, .plain, F_i_sameFrame), (144, .plain, F_i_isZeroChan), (143, .plain, F_i_isNonce), (174, .plain, F_i_TimerOk), (175, .plain, F_i_finishOk), (145, .plain, F_i_ChanOk)]
def F_i_ClientOk : Fun1 := funV P_i_ClientOk (fun d => (T_i_ClientOk d.1).val) O_i_ClientOk
def Q_i_ClientOk : Loops := fun _ _ => .fail
theorem e_i_ClientOk : ∀ d, pcall ⟨lookT tys, ctrOf C_i_ClientOk, kindOf C_i_ClientOk, 3, 4⟩ 0 Q_i_ClientOk Try.f104 .plain (mkA P_i_ClientOk d) = (T_i_ClientOk d.1).run fun r => some (O_i_ClientOk r) := fun d => by kernel_rfl
theorem fn_i_ClientOk : Fn Try.prog 104 .plain F_i_ClientOk := fn_of (cfgOk_of mixed tys_ok (show FnsOk Try.prog C_i_ClientOk from ⟨fn_i_within, fn_i_PskOk, fn_i_AddrOk, fn_i_sameFrame, fn_i_isZeroChan, fn_i_isNonce, fn_i_TimerOk, fn_i_finishOk, fn_i_ChanOk, trivial⟩)) Try.func104 (by kernel_rfl) (by kernel_rfl) (fun cx b hp hb => all_of (by kernel_rfl : loopsOf (Try.f104.body.getD .skip) = []) trivial b hb) (R := (Bool × Unit)) (T := fun (d : aden P_i_ClientOk) => T_i_ClientOk d.1) e_i_ClientOk
def P_i_copyFrame : List (Bool × List Sh) := [(true, h_11)]
def O_i_copyFrame (r : (YFrame)) : List RV × List RV := ([rv (true, h_11) r], [])
def C_i_copyFrame : Fns := [(63, .plain, F_i_clone)]
def F_i_copyFrame : Fun1 := funV P_i_copyFrame (fun d => (T_i_copyFrame d.1).val) O_i_copyFrame
def Q_i_copyFrame : Loops := fun _ _ => .fail
theorem e_i_copyFrame : ∀ d, pcall ⟨lookT tys, ctrOf C_i_copyFrame, kindOf C_i_copyFrame, 3, 4⟩ 0 Q_i_copyFrame Try.f176 .plain (mkA P_i_copyFrame d) = (T_i_copyFrame d.1).run fun r => some (O_i_copyFrame r) := fun d => by kernel_rfl
theorem fn_i_copyFrame : Fn Try.prog 176 .plain F_i_copyFrame := fn_of (cfgOk_of mixed tys_ok (show FnsOk Try.prog C_i_copyFrame from ⟨fn_i_clone, trivial⟩)) Try.func176 (by kernel_rfl) (by kernel_rfl) (fun cx b hp hb => all_of (by kernel_rfl : loopsOf (Try.f176.body.getD .skip) = []) trivial b hb) (R := (YFrame)) (T := fun (d : aden P_i_copyFrame) => T_i_copyFrame d.1) e_i_copyFrame
def P_i_copyClient : List (Bool × List Sh) := [(true, h_17)]
def O_i_copyClient (r : (YClient)) : List RV × List RV := ([rv (true, h_17) r], [])
def C_i_copyClient : Fns := [(63, .plain, F_i_clone), (176, .plain, F_i_copyFrame), (148, .plain, F_i_copyChan)]
def F_i_copyClient : Fun1 := funV P_i_copyClient (fun d => (T_i_copyClient d.1).val) O_i_copyClient
def Q_i_copyClient : Loops := fun _ _ => .fail
theorem e_i_copyClient : ∀ d, pcall ⟨lookT tys, ctrOf C_i_copyClient, kindOf C_i_copyClient, 3, 4⟩ 0 Q_i_copyClient Try.f105 .plain (mkA P_i_copyClient d) = (T_i_copyClient d.1).run fun r => some (O_i_copyClient r) := fun d => by kernel_rfl
theorem fn_i_copyClient : Fn Try.prog 105 .plain F_i_copyClient := fn_of (cfgOk_of mixed tys_ok (show FnsOk Try.prog C_i_copyClient from ⟨fn_i_clone, fn_i_copyFrame, fn_i_copyChan, trivial⟩)) Try.func105 (by kernel_rfl) (by kernel_rfl) (fun cx b hp hb => all_of (by kernel_rfl : loopsOf (Try.f105.body.getD .skip) = []) trivial b hb) (R := (YClient)) (T := fun (d : aden P_i_copyClient) => T_i_copyClient d.1) e_i_copyClient
def P_i_idle : List (Bool × List Sh) := [(true, h_17)]
def O_i_idle (r : (YClient)) : List RV × List RV := ([rv (true, h_17) r], [])
def C_i_idle : Fns := [(63, .plain, F_i_clone)]
def F_i_idle : Fun1 := funV P_i_idle (fun d => (T_i_idle d.1).val) O_i_idle
def Q_i_idle : Loops := fun _ _ => .fail
theorem e_i_idle : ∀ d, pcall ⟨lookT tys, ctrOf C_i_idle, kindOf C_i_idle, 3, 4⟩ 0 Q_i_idle Try.f106 .plain (mkA P_i_idle d) = (T_i_idle d.1).run fun r => some (O_i_idle r) := fun d => by kernel_rfl
theorem fn_i_idle : Fn Try.prog 106 .plain F_i_idle := fn_of (cfgOk_of mixed tys_ok (show FnsOk Try.prog C_i_idle from ⟨fn_i_clone, trivial⟩)) Try.func106 (by kernel_rfl) (by kernel_rfl) (fun cx b hp hb => all_of (by kernel_rfl : loopsOf (Try.f106.body.getD .skip) = []) trivial b hb) (R := (YClient)) (T := fun (d : aden P_i_idle) => T_i_idle d.1) e_i_idle
def P_i_endOf : List (Bool × List Sh) := [(false, [.int .i64]), (false, [.int .i64]), (false, [.sl 5 [.int .u8]])]
def O_i_endOf (r : (YNote)) : List RV × List RV := ([rv (true, h_10) r], [])
def C_i_endOf : Fns := [(63, .plain, F_i_clone)]
def F_i_endOf : Fun1 := funV P_i_endOf (fun d => (T_i_endOf d.1 d.2.1 d.2.2.1).val) O_i_endOf
def Q_i_endOf : Loops := fun _ _ => .fail
theorem e_i_endOf : ∀ d, pcall ⟨lookT tys, ctrOf C_i_endOf, kindOf C_i_endOf, 3, 4⟩ 0 Q_i_endOf Try.f107 .plain (mkA P_i_endOf d) = (T_i_endOf d.1 d.2.1 d.2.2.1).run fun r => some (O_i_endOf r) := fun d => by kernel_rfl
theorem fn_i_endOf : Fn Try.prog 107 .plain F_i_endOf := fn_of (cfgOk_of mixed tys_ok (show FnsOk Try.prog C_i_endOf from ⟨fn_i_clone, trivial⟩)) Try.func107 (by kernel_rfl) (by kernel_rfl) (fun cx b hp hb => all_of (by kernel_rfl : loopsOf (Try.f107.body.getD .skip) = []) trivial b hb) (R := (YNote)) (T := fun (d : aden P_i_endOf) => T_i_endOf d.1 d.2.1 d.2.2.1) e_i_endOf
def P_i_Hang : List (Bool × List Sh) := [(true, h_17)]
def O_i_Hang (r : (YClient) × ((List YNote) × Unit)) : List RV × List RV := ([rv (true, h_17) r.1, rv (false, [.sl 157 h_10]) r.2], [])
def C_i_Hang : Fns := [(104, .plain, F_i_ClientOk), (105, .plain, F_i_copyClient), (106, .plain, F_i_idle), (107, .plain, F_i_endOf)]
def F_i_Hang : Fun1 := funV P_i_Hang (fun d => (T_i_Hang d.1).val) O_i_Hang
def Q_i_Hang : Loops := fun _ _ => .fail
theorem e_i_Hang : ∀ d, pcall ⟨lookT tys, ctrOf C_i_Hang, kindOf C_i_Hang, 3, 4⟩ 0 Q_i_Hang Try.f26 .plain (mkA P_i_Hang d) = (T_i_Hang d.1).run fun r => some (O_i_Hang r) := fun d => by kernel_rfl
theorem fn_i_Hang : Fn Try.prog 26 .plain F_i_Hang := fn_of (cfgOk_of mixed tys_ok (show FnsOk Try.prog C_i_Hang from ⟨fn_i_ClientOk, fn_i_copyClient, fn_i_idle, fn_i_endOf, trivial⟩)) Try.func26 (by kernel_rfl) (by kernel_rfl) (fun cx b hp hb => all_of (by kernel_rfl : loopsOf (Try.f26.body.getD .skip) = []) trivial b hb) (R := (YClient) × ((List YNote) × Unit)) (T := fun (d : aden P_i_Hang) => T_i_Hang d.1) e_i_Hang
def P_l_eqFrame : List (Bool × List Sh) := [(true, h_11), (true, h_11)]
def O_l_eqFrame (r : (Bool × Unit)) : List RV × List RV := ([rv (false, [.bool]) r], [])
def C_l_eqFrame : Fns := [(44, .plain, F_l_eqByteS)]
def F_l_eqFrame : Fun1 := funV P_l_eqFrame (fun d => (T_l_eqFrame d.1 d.2.1).val) O_l_eqFrame
def Q_l_eqFrame : Loops := fun _ _ => .fail
theorem e_l_eqFrame : ∀ d, pcall ⟨lookT tys, ctrOf C_l_eqFrame, kindOf C_l_eqFrame, 3, 4⟩ 0 Q_l_eqFrame Try.f109 .plain (mkA P_l_eqFrame d) = (T_l_eqFrame d.1 d.2.1).run fun r => some (O_l_eqFrame r) := fun d => by kernel_rfl
theorem fn_l_eqFrame : Fn Try.prog 109 .plain F_l_eqFrame := fn_of (cfgOk_of mixed tys_ok (show FnsOk Try.prog C_l_eqFrame from ⟨fn_l_eqByteS, trivial⟩)) Try.func109 (by kernel_rfl) (by kernel_rfl) (fun cx b hp hb => all_of (by kernel_rfl : loopsOf (Try.f109.body.getD .skip) = []) trivial b hb) (R := (Bool × Unit)) (T := fun (d : aden P_l_eqFrame) => T_l_eqFrame d.1 d.2.1) e_l_eqFrame
def P_l_eqTimer : List (Bool × List Sh) := [(true, h_1), (true, h_1)]
def O_l_eqTimer (r : (Bool × Unit)) : List RV × List RV := ([rv (false, [.bool]) r], [])
def C_l_eqTimer : Fns := []
def F_l_eqTimer : Fun1 := funV P_l_eqTimer (fun d => (T_l_eqTimer d.1 d.2.1).val) O_l_eqTimer
def Q_l_eqTimer : Loops := fun _ _ => .fail
theorem e_l_eqTimer : ∀ d, pcall ⟨lookT tys, ctrOf C_l_eqTimer, kindOf C_l_eqTimer, 3, 4⟩ 0 Q_l_eqTimer Try.f110 .plain (mkA P_l_eqTimer d) = (T_l_eqTimer d.1 d.2.1).run fun r => some (O_l_eqTimer r) := fun d => by kernel_rfl
theorem fn_l_eqTimer : Fn Try.prog 110 .plain F_l_eqTimer := fn_of (cfgOk_of mixed tys_ok (show FnsOk Try.prog C_l_eqTimer from trivial)) Try.func110 (by kernel_rfl) (by kernel_rfl) (fun cx b hp hb => all_of (by kernel_rfl : loopsOf (Try.f110.body.getD .skip) = []) trivial b hb) (R := (Bool × Unit)) (T := fun (d : aden P_l_eqTimer) => T_l_eqTimer d.1 d.2.1) e_l_eqTimer
def P_l_eqClient : List (Bool × List Sh) := [(true, h_17), (true, h_17)]
def O_l_eqClient (r : (Bool × Unit)) : List RV × List RV := ([rv (false, [.bool]) r], [])
def C_l_eqClient : Fns := [(44, .plain, F_l_eqByteS), (108, .plain, F_l_eqAddr), (109, .plain, F_l_eqFrame), (64, .plain, F_l_eqChan), (110, .plain, F_l_eqTimer)]
def F_l_eqClient : Fun1 := funV P_l_eqClient (fun d => (T_l_eqClient d.1 d.2.1).val) O_l_eqClient
def Q_l_eqClient : Loops := fun _ _ => .fail
theorem e_l_eqClient : ∀ d, pcall ⟨lookT tys, ctrOf C_l_eqClient, kindOf C_l_eqClient, 3, 4⟩ 0 Q_l_eqClient Try.f27 .plain (mkA P_l_eqClient d) = (T_l_eqClient d.1 d.2.1).run fun r => some (O_l_eqClient r) := fun d => by kernel_rfl
theorem fn_l_eqClient : Fn Try.prog 27 .plain F_l_eqClient := fn_of (cfgOk_of mixed tys_ok (show FnsOk Try.prog C_l_eqClient from ⟨fn_l_eqByteS, fn_l_eqAddr, fn_l_eqFrame, fn_l_eqChan, fn_l_eqTimer, trivial⟩)) Try.func27 (by kernel_rfl) (by kernel_rfl) (fun cx b hp hb => all_of (by kernel_rfl : loopsOf (Try.f27.body.getD .skip) = []) trivial b hb) (R := (Bool × Unit)) (T := fun (d : aden P_l_eqClient) => T_l_eqClient d.1 d.2.1) e_l_eqClient
def P_l_eqNote : List (Bool × List Sh) := [(true, h_10), (true, h_10)]
def O_l_eqNote (r : (Bool × Unit)) : List RV × List RV := ([rv (false, [.bool]) r], [])
def C_l_eqNote : Fns := [(44, .plain, F_l_eqByteS), (108, .plain, F_l_eqAddr)]
def F_l_eqNote : Fun1 := funV P_l_eqNote (fun d => (T_l_eqNote d.1 d.2.1).val) O_l_eqNote
def Q_l_eqNote : Loops := fun _ _ => .fail
theorem e_l_eqNote : ∀ d, pcall ⟨lookT tys, ctrOf C_l_eqNote, kindOf C_l_eqNote, 3, 4⟩ 0 Q_l_eqNote Try.f111 .plain (mkA P_l_eqNote d) = (T_l_eqNote d.1 d.2.1).run fun r => some (O_l_eqNote r) := fun d => by kernel_rfl
theorem fn_l_eqNote : Fn Try.prog 111 .plain F_l_eqNote := fn_of (cfgOk_of mixed tys_ok (show FnsOk Try.prog C_l_eqNote from ⟨fn_l_eqByteS, fn_l_eqAddr, trivial⟩)) Try.func111 (by kernel_rfl) (by kernel_rfl) (fun cx b hp hb => all_of (by kernel_rfl : loopsOf (Try.f111.body.getD .skip) = []) trivial b hb) (R := (Bool × Unit)) (T := fun (d : aden P_l_eqNote) => T_l_eqNote d.1 d.2.1) e_l_eqNote
def P_l_eqNoteS : List (Bool × List Sh) := [(false, [.sl 157 h_10]), (false, [.sl 157 h_10])]
def O_l_eqNoteS (r : (Bool × Unit)) : List RV × List RV := ([rv (false, [.bool]) r], [])
def C_l_eqNoteS : Fns := [(111, .plain, F_l_eqNote)]
def F_l_eqNoteS : Fun1 := funV P_l_eqNoteS (fun d => (T_l_eqNoteS d.1 d.2.1).val) O_l_eqNoteS
def K_l_eqNoteS_4 : Sk := ⟨[(0, .v false [(.sl 157 h_10, .ro)]), (1, .v false [(.sl 157 h_10, .ro)]), (5, .v false [(.int .i64, .nil)])], [], []⟩
def X_l_eqNoteS_4 : List (Ex × Sk) := [(.ret, ⟨[(4, .v false [(.bool, .nil)])], [], []⟩), ((.exit 0), ⟨[], [], []⟩)]
def Q_l_eqNoteS : Loops := fun i st => cond (Nat.beq i 4) (lam K_l_eqNoteS_4 5000000 X_l_eqNoteS_4 B_l_eqNoteS_4 st) <| .fail
theorem lp_l_eqNoteS_4 : ∀ d, bod ⟨lookT tys, ctrOf C_l_eqNoteS, kindOf C_l_eqNoteS, 3, 4⟩ 0 Try.f28.ntmps Q_l_eqNoteS (nthLoop Try.f28 0) K_l_eqNoteS_4 5000000 X_l_eqNoteS_4 d = B_l_eqNoteS_4 d := fun d => by kernel_rfl
theorem lo_l_eqNoteS_4 (cx : Cx) (hp : cx.pin.length ≤ 0) : LoopOk Try.prog cx Try.f28.ntmps Q_l_eqNoteS (nthLoop Try.f28 0) := loop_of (cfgOk_of mixed tys_ok (show FnsOk Try.prog C_l_eqNoteS from ⟨fn_l_eqNote, trivial⟩)) hp (all_of (by kernel_rfl : loopsOf (nthLoop Try.f28 0) = []) trivial) (by kernel_rfl) lp_l_eqNoteS_4
theorem e_l_eqNoteS : ∀ d, pcall ⟨lookT tys, ctrOf C_l_eqNoteS, kindOf C_l_eqNoteS, 3, 4⟩ 0 Q_l_eqNoteS Try.f28 .plain (mkA P_l_eqNoteS d) = (T_l_eqNoteS d.1 d.2.1).run fun r => some (O_l_eqNoteS r) := fun d => by kernel_rfl
theorem fn_l_eqNoteS : Fn Try.prog 28 .plain F_l_eqNoteS := fn_of (cfgOk_of mixed tys_ok (show FnsOk Try.prog C_l_eqNoteS from ⟨fn_l_eqNote, trivial⟩)) Try.func28 (by kernel_rfl) (by kernel_rfl) (fun cx b hp hb => all_of (by kernel_rfl : loopsOf (Try.f28.body.getD .skip) = [nthLoop Try.f28 0]) ⟨lo_l_eqNoteS_4 cx hp, trivial⟩ b hb) (R := (Bool × Unit)) (T := fun (d : aden P_l_eqNoteS) => T_l_eqNoteS d.1 d.2.1) e_l_eqNoteS
def P_l_markFrame : List (Bool × List Sh) := [(true, h_11), (false, [.int .i64])]
def O_l_markFrame (r : (YI) × (YFrame)) : List RV × List RV := ([rv (false, [.int .i64]) r.1], [rv (true, h_11) r.2])
def C_l_markFrame : Fns := [(51, (.lend [1]), F_l_markByteS)]
def F_l_markFrame : Fun1 := funV P_l_markFrame (fun d => (T_l_markFrame d.1 d.2.1).val) O_l_markFrame
def Q_l_markFrame : Loops := fun _ _ => .fail
theorem e_l_markFrame : ∀ d, pcall ⟨lookT tys, ctrOf C_l_markFrame, kindOf C_l_markFrame, 3, 4⟩ 1 Q_l_markFrame Try.f112 (.lend [1]) (mkA P_l_markFrame d) = (T_l_markFrame d.1 d.2.1).run fun r => some (O_l_markFrame r) := fun d => by kernel_rfl
theorem fn_l_markFrame : Fn Try.prog 112 (.lend [1]) F_l_markFrame := fn_of (cfgOk_of mixed tys_ok (show FnsOk Try.prog C_l_markFrame from ⟨fn_l_markByteS, trivial⟩)) Try.func112 (by kernel_rfl) (by kernel_rfl) (fun cx b hp hb => all_of (by kernel_rfl : loopsOf (Try.f112.body.getD .skip) = []) trivial b hb) (R := (YI) × (YFrame)) (T := fun (d : aden P_l_markFrame) => T_l_markFrame d.1 d.2.1) e_l_markFrame
def P_l_markClient : List (Bool × List Sh) := [(true, h_17), (false, [.int .i64])]
def O_l_markClient (r : (YI) × (YClient)) : List RV × List RV := ([rv (false, [.int .i64]) r.1], [rv (true, h_17) r.2])
def C_l_markClient : Fns := [(51, (.lend [1]), F_l_markByteS), (112, (.lend [1]), F_l_markFrame), (66, (.lend [1]), F_l_markChan)]
def F_l_markClient : Fun1 := funV P_l_markClient (fun d => (T_l_markClient d.1 d.2.1).val) O_l_markClient
def Q_l_markClient : Loops := fun _ _ => .fail
theorem e_l_markClient : ∀ d, pcall ⟨lookT tys, ctrOf C_l_markClient, kindOf C_l_markClient, 3, 4⟩ 1 Q_l_markClient Try.f29 (.lend [1]) (mkA P_l_markClient d) = (T_l_markClient d.1 d.2.1).run fun r => some (O_l_markClient r) := fun d => by kernel_rfl
theorem fn_l_markClient : Fn Try.prog 29 (.lend [1]) F_l_markClient := fn_of (cfgOk_of mixed tys_ok (show FnsOk Try.prog C_l_markClient from ⟨fn_l_markByteS, fn_l_markFrame, fn_l_markChan, trivial⟩)) Try.func29 (by kernel_rfl) (by kernel_rfl) (fun cx b hp hb => all_of (by kernel_rfl : loopsOf (Try.f29.body.getD .skip) = []) trivial b hb) (R := (YI) × (YClient)) (T := fun (d : aden P_l_markClient) => T_l_markClient d.1 d.2.1) e_l_markClient
def P_l_markNoteS : List (Bool × List Sh) := [(false, [.sl 157 h_10]), (false, [.int .i64])]
def O_l_markNoteS (r : (YI) × ((List YNote) × Unit)) : List RV × List RV := ([rv (false, [.int .i64]) r.1], [rv (false, [.sl 157 h_10]) r.2])
def C_l_markNoteS : Fns := [(51, (.lend [1]), F_l_markByteS)]
def F_l_markNoteS : Fun1 := funV P_l_markNoteS (fun d => (T_l_markNoteS d.1 d.2.1).val) O_l_markNoteS
def K_l_markNoteS_2 : Sk := ⟨[(0, .v false [(.sl 157 h_10, (.own 3000000))]), (1, .v false [(.int .i64, .nil)]), (5, .v false [(.int .i64, .nil)])], [], [3000000]⟩
def X_l_markNoteS_2 : List (Ex × Sk) := [((.exit 0), ⟨[(0, .v false [(.sl 157 h_10, (.own 3000000))]), (1, .v false [(.int .i64, .nil)])], [], [3000000]⟩)]
def Q_l_markNoteS : Loops := fun i st => cond (Nat.beq i 2) (lam K_l_markNoteS_2 3000000 X_l_markNoteS_2 B_l_markNoteS_2 st) <| .fail
theorem lp_l_markNoteS_2 : ∀ d, bod ⟨lookT tys, ctrOf C_l_markNoteS, kindOf C_l_markNoteS, 3, 4⟩ 1 Try.f30.ntmps Q_l_markNoteS (nthLoop Try.f30 0) K_l_markNoteS_2 3000000 X_l_markNoteS_2 d = B_l_markNoteS_2 d := fun d => by kernel_rfl
theorem lo_l_markNoteS_2 (cx : Cx) (hp : cx.pin.length ≤ 1) : LoopOk Try.prog cx Try.f30.ntmps Q_l_markNoteS (nthLoop Try.f30 0) := loop_of (cfgOk_of mixed tys_ok (show FnsOk Try.prog C_l_markNoteS from ⟨fn_l_markByteS, trivial⟩)) hp (all_of (by kernel_rfl : loopsOf (nthLoop Try.f30 0) = []) trivial) (by kernel_rfl) lp_l_markNoteS_2
theorem e_l_markNoteS : ∀ d, pcall ⟨lookT tys, ctrOf C_l_markNoteS, kindOf C_l_markNoteS, 3, 4⟩ 1 Q_l_markNoteS Try.f30 (.lend [1]) (mkA P_l_markNoteS d) = (T_l_markNoteS d.1 d.2.1).run fun r => some (O_l_markNoteS r) := fun d => by kernel_rfl
theorem fn_l_markNoteS : Fn Try.prog 30 (.lend [1]) F_l_markNoteS := fn_of (cfgOk_of mixed tys_ok (show FnsOk Try.prog C_l_markNoteS from ⟨fn_l_markByteS, trivial⟩)) Try.func30 (by kernel_rfl) (by kernel_rfl) (fun cx b hp hb => all_of (by kernel_rfl : loopsOf (Try.f30.body.getD .skip) = [nthLoop Try.f30 0]) ⟨lo_l_markNoteS_2 cx hp, trivial⟩ b hb) (R := (YI) × ((List YNote) × Unit)) (T := fun (d : aden P_l_markNoteS) => T_l_markNoteS d.1 d.2.1) e_l_markNoteS
def P_l_heldFrame : List (Bool × List Sh) := [(true, h_11), (false, [.int .i64])]
def O_l_heldFrame (r : (YI)) : List RV × List RV := ([rv (false, [.int .i64]) r], [])
def C_l_heldFrame : Fns := [(52, .plain, F_l_heldByteS)]
def F_l_heldFrame : Fun1 := funV P_l_heldFrame (fun d => (T_l_heldFrame d.1 d.2.1).val) O_l_heldFrame
def Q_l_heldFrame : Loops := fun _ _ => .fail
theorem e_l_heldFrame : ∀ d, pcall ⟨lookT tys, ctrOf C_l_heldFrame, kindOf C_l_heldFrame, 3, 4⟩ 0 Q_l_heldFrame Try.f113 .plain (mkA P_l_heldFrame d) = (T_l_heldFrame d.1 d.2.1).run fun r => some (O_l_heldFrame r) := fun d => by kernel_rfl
theorem fn_l_heldFrame : Fn Try.prog 113 .plain F_l_heldFrame := fn_of (cfgOk_of mixed tys_ok (show FnsOk Try.prog C_l_heldFrame from ⟨fn_l_heldByteS, trivial⟩)) Try.func113 (by kernel_rfl) (by kernel_rfl) (fun cx b hp hb => all_of (by kernel_rfl : loopsOf (Try.f113.body.getD .skip) = []) trivial b hb) (R := (YI)) (T := fun (d : aden P_l_heldFrame) => T_l_heldFrame d.1 d.2.1) e_l_heldFrame
def P_l_heldClient : List (Bool × List Sh) := [(true, h_17), (false, [.int .i64])]
def O_l_heldClient (r : (YI)) : List RV × List RV := ([rv (false, [.int .i64]) r], [])
def C_l_heldClient : Fns := [(52, .plain, F_l_heldByteS), (113, .plain, F_l_heldFrame), (68, .plain, F_l_heldChan)]
def F_l_heldClient : Fun1 := funV P_l_heldClient (fun d => (T_l_heldClient d.1 d.2.1).val) O_l_heldClient
def Q_l_heldClient : Loops := fun _ _ => .fail
theorem e_l_heldClient : ∀ d, pcall ⟨lookT tys, ctrOf C_l_heldClient, kindOf C_l_heldClient, 3, 4⟩ 0 Q_l_heldClient Try.f31 .plain (mkA P_l_heldClient d) = (T_l_heldClient d.1 d.2.1).run fun r => some (O_l_heldClient r) := fun d => by kernel_rfl
theorem fn_l_heldClient : Fn Try.prog 31 .plain F_l_heldClient := fn_of (cfgOk_of mixed tys_ok (show FnsOk Try.prog C_l_heldClient from ⟨fn_l_heldByteS, fn_l_heldFrame, fn_l_heldChan, trivial⟩)) Try.func31 (by kernel_rfl) (by kernel_rfl) (fun cx b hp hb => all_of (by kernel_rfl : loopsOf (Try.f31.body.getD .skip) = []) trivial b hb) (R := (YI)) (T := fun (d : aden P_l_heldClient) => T_l_heldClient d.1 d.2.1) e_l_heldClient
def P_l_heldNoteS : List (Bool × List Sh) := [(false, [.sl 157 h_10]), (false, [.int .i64])]
def O_l_heldNoteS (r : (YI)) : List RV × List RV := ([rv (false, [.int .i64]) r], [])
def C_l_heldNoteS : Fns := [(52, .plain, F_l_heldByteS)]
def F_l_heldNoteS : Fun1 := funV P_l_heldNoteS (fun d => (T_l_heldNoteS d.1 d.2.1).val) O_l_heldNoteS
def K_l_heldNoteS_2 : Sk := ⟨[(0, .v false [(.sl 157 h_10, .ro)]), (1, .v false [(.int .i64, .nil)]), (5, .v false [(.int .i64, .nil)])], [], []⟩
def X_l_heldNoteS_2 : List (Ex × Sk) := [(.ret, ⟨[(4, .v false [(.int .i64, .nil)])], [], []⟩), ((.exit 0), ⟨[(1, .v false [(.int .i64, .nil)])], [], []⟩)]
def Q_l_heldNoteS : Loops := fun i st => cond (Nat.beq i 2) (lam K_l_heldNoteS_2 3000000 X_l_heldNoteS_2 B_l_heldNoteS_2 st) <| .fail
theorem lp_l_heldNoteS_2 : ∀ d, bod ⟨lookT tys, ctrOf C_l_heldNoteS, kindOf C_l_heldNoteS, 3, 4⟩ 0 Try.f32.ntmps Q_l_heldNoteS (nthLoop Try.f32 0) K_l_heldNoteS_2 3000000 X_l_heldNoteS_2 d = B_l_heldNoteS_2 d := fun d => by kernel_rfl
theorem lo_l_heldNoteS_2 (cx : Cx) (hp : cx.pin.length ≤ 0) : LoopOk Try.prog cx Try.f32.ntmps Q_l_heldNoteS (nthLoop Try.f32 0) := loop_of (cfgOk_of mixed tys_ok (show FnsOk Try.prog C_l_heldNoteS from ⟨fn_l_heldByteS, trivial⟩)) hp (all_of (by kernel_rfl : loopsOf (nthLoop Try.f32 0) = []) trivial) (by kernel_rfl) lp_l_heldNoteS_2
theorem e_l_heldNoteS : ∀ d, pcall ⟨lookT tys, ctrOf C_l_heldNoteS, kindOf C_l_heldNoteS, 3, 4⟩ 0 Q_l_heldNoteS Try.f32 .plain (mkA P_l_heldNoteS d) = (T_l_heldNoteS d.1 d.2.1).run fun r => some (O_l_heldNoteS r) := fun d => by kernel_rfl
theorem fn_l_heldNoteS : Fn Try.prog 32 .plain F_l_heldNoteS := fn_of (cfgOk_of mixed tys_ok (show FnsOk Try.prog C_l_heldNoteS from ⟨fn_l_heldByteS, trivial⟩)) Try.func32 (by kernel_rfl) (by kernel_rfl) (fun cx b hp hb => all_of (by kernel_rfl : loopsOf (Try.f32.body.getD .skip) = [nthLoop Try.f32 0]) ⟨lo_l_heldNoteS_2 cx hp, trivial⟩ b hb) (R := (YI)) (T := fun (d : aden P_l_heldNoteS) => T_l_heldNoteS d.1 d.2.1) e_l_heldNoteS
def P_l_FnExactHang : List (Bool × List Sh) := [(true, h_17)]
def O_l_FnExactHang (r : (Bool × Unit)) : List RV × List RV := ([rv (false, [.bool]) r], [])
def C_l_FnExactHang : Fns := [(23, .plain, F_l_szClient), (25, .plain, F_l_toClient), (24, .plain, F_s_Hang), (26, .plain, F_i_Hang), (27, .plain, F_l_eqClient), (28, .plain, F_l_eqNoteS), (29, (.lend [1]), F_l_markClient), (30, (.lend [1]), F_l_markNoteS), (31, .plain, F_l_heldClient), (32, .plain, F_l_heldNoteS)]
def F_l_FnExactHang : Fun1 := funV P_l_FnExactHang (fun d => (T_l_FnExactHang d.1).val) O_l_FnExactHang
def Q_l_FnExactHang : Loops := fun _ _ => .fail
theorem e_l_FnExactHang : ∀ d, pcall ⟨lookT tys, ctrOf C_l_FnExactHang, kindOf C_l_FnExactHang, 3, 4⟩ 0 Q_l_FnExactHang Try.f6 .plain (mkA P_l_FnExactHang d) = (T_l_FnExactHang d.1).run fun r => some (O_l_FnExactHang r) := fun d => by kernel_rfl
theorem fn_l_FnExactHang : Fn Try.prog 6 .plain F_l_FnExactHang := fn_of (cfgOk_of mixed tys_ok (show FnsOk Try.prog C_l_FnExactHang from ⟨fn_l_szClient, fn_l_toClient, fn_s_Hang, fn_i_Hang, fn_l_eqClient, fn_l_eqNoteS, fn_l_markClient, fn_l_markNoteS, fn_l_heldClient, fn_l_heldNoteS, trivial⟩)) Try.func6 (by kernel_rfl) (by kernel_rfl) (fun cx b hp hb => all_of (by kernel_rfl : loopsOf (Try.f6.body.getD .skip) = []) trivial b hb) (R := (Bool × Unit)) (T := fun (d : aden P_l_FnExactHang) => T_l_FnExactHang d.1) e_l_FnExactHang
def P_s_Roam : List (Bool × List Sh) := [(true, h_17), (true, [.int .i64, .int .i64])]
def O_s_Roam (r : (YClient)) : List RV × List RV := ([rv (true, h_17) r], [])
def C_s_Roam : Fns := [(100, .plain, F_s_l19Copy), (99, .plain, F_s_ClientOk), (114, .plain, F_s_AddrOk)]
def F_s_Roam : Fun1 := funV P_s_Roam (fun d => (T_s_Roam d.1 d.2.1).val) O_s_Roam
def Q_s_Roam : Loops := fun _ _ => .fail
theorem e_s_Roam : ∀ d, pcall ⟨lookT tys, ctrOf C_s_Roam, kindOf C_s_Roam, 3, 4⟩ 0 Q_s_Roam Try.f33 .plain (mkA P_s_Roam d) = (T_s_Roam d.1 d.2.1).run fun r => some (O_s_Roam r) := fun d => by kernel_rfl
theorem fn_s_Roam : Fn Try.prog 33 .plain F_s_Roam := fn_of (cfgOk_of mixed tys_ok (show FnsOk Try.prog C_s_Roam from ⟨fn_s_l19Copy, fn_s_ClientOk, fn_s_AddrOk, trivial⟩)) Try.func33 (by kernel_rfl) (by kernel_rfl) (fun cx b hp hb => all_of (by kernel_rfl : loopsOf (Try.f33.body.getD .skip) = []) trivial b hb) (R := (YClient)) (T := fun (d : aden P_s_Roam) => T_s_Roam d.1 d.2.1) e_s_Roam
def P_i_Roam : List (Bool × List Sh) := [(true, h_17), (true, [.int .i64, .int .i64])]
def O_i_Roam (r : (YClient)) : List RV × List RV := ([rv (true, h_17) r], [])
def C_i_Roam : Fns := [(105, .plain, F_i_copyClient), (104, .plain, F_i_ClientOk), (115, .plain, F_i_AddrOk)]
def F_i_Roam : Fun1 := funV P_i_Roam (fun d => (T_i_Roam d.1 d.2.1).val) O_i_Roam
def Q_i_Roam : Loops := fun _ _ => .fail
theorem e_i_Roam : ∀ d, pcall ⟨lookT tys, ctrOf C_i_Roam, kindOf C_i_Roam, 3, 4⟩ 0 Q_i_Roam Try.f35 .plain (mkA P_i_Roam d) = (T_i_Roam d.1 d.2.1).run fun r => some (O_i_Roam r) := fun d => by kernel_rfl
theorem fn_i_Roam : Fn Try.prog 35 .plain F_i_Roam := fn_of (cfgOk_of mixed tys_ok (show FnsOk Try.prog C_i_Roam from ⟨fn_i_copyClient, fn_i_ClientOk, fn_i_AddrOk, trivial⟩)) Try.func35 (by kernel_rfl) (by kernel_rfl) (fun cx b hp hb => all_of (by kernel_rfl : loopsOf (Try.f35.body.getD .skip) = []) trivial b hb) (R := (YClient)) (T := fun (d : aden P_i_Roam) => T_i_Roam d.1 d.2.1) e_i_Roam
def P_l_FnExactRoam : List (Bool × List Sh) := [(true, h_17), (true, [.int .i64, .int .i64])]
def O_l_FnExactRoam (r : (Bool × Unit)) : List RV × List RV := ([rv (false, [.bool]) r], [])
def C_l_FnExactRoam : Fns := [(23, .plain, F_l_szClient), (25, .plain, F_l_toClient), (34, .plain, F_l_toAddr), (33, .plain, F_s_Roam), (35, .plain, F_i_Roam), (27, .plain, F_l_eqClient), (29, (.lend [1]), F_l_markClient), (31, .plain, F_l_heldClient)]
def F_l_FnExactRoam : Fun1 := funV P_l_FnExactRoam (fun d => (T_l_FnExactRoam d.1 d.2.1).val) O_l_FnExactRoam
def Q_l_FnExactRoam : Loops := fun _ _ => .fail
theorem e_l_FnExactRoam : ∀ d, pcall ⟨lookT tys, ctrOf C_l_FnExactRoam, kindOf C_l_FnExactRoam, 3, 4⟩ 0 Q_l_FnExactRoam Try.f7 .plain (mkA P_l_FnExactRoam d) = (T_l_FnExactRoam d.1 d.2.1).run fun r => some (O_l_FnExactRoam r) := fun d => by kernel_rfl
theorem fn_l_FnExactRoam : Fn Try.prog 7 .plain F_l_FnExactRoam := fn_of (cfgOk_of mixed tys_ok (show FnsOk Try.prog C_l_FnExactRoam from ⟨fn_l_szClient, fn_l_toClient, fn_l_toAddr, fn_s_Roam, fn_i_Roam, fn_l_eqClient, fn_l_markClient, fn_l_heldClient, trivial⟩)) Try.func7 (by kernel_rfl) (by kernel_rfl) (fun cx b hp hb => all_of (by kernel_rfl : loopsOf (Try.f7.body.getD .skip) = []) trivial b hb) (R := (Bool × Unit)) (T := fun (d : aden P_l_FnExactRoam) => T_l_FnExactRoam d.1 d.2.1) e_l_FnExactRoam
end
end Go.Proofs.Yteimhkhoapdfkaa

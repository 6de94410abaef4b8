/-
  That the functions of the seat answer what the terms of text W say; nothing is assumed.
-/
import Derived.Test.YthcbhopanefaiaaW
import Derived.Test.YthcbhopanefaiaaProg
import Derived.KernelRfl
namespace Go.Proofs.Ythcbhopanefaiaa
open Go.RowKit
set_option linter.unusedVariables false
set_option maxRecDepth 100000
set_option maxHeartbeats 4000000
noncomputable section
abbrev h_0 : List Sh := [.int .i64, .int .i64, .bool, .int .u8]
abbrev h_1 : List Sh := [.int .i64, .int .i64, .int .i64, .int .i64]
abbrev h_2 : List Sh := [.sl 3 [.int .i64], .sl 5 [.int .u8], .int .i64]
abbrev h_3 : List Sh := [.int .i64, .int .i64, .int .i64, .sl 5 [.int .u8]]
abbrev h_4 : List Sh := [.int .i64, .int .i64, .sl 5 [.int .u8], .int .i64]
abbrev h_5 : List Sh := [.int .i64, .int .i64, .int .i64, .int .i64, .sl 5 [.int .u8]]
abbrev h_6 : List Sh := [.int .i64, .sl 5 [.int .u8], .int .i64, .int .i64, .sl 3 [.int .i64]]
abbrev h_7 : List Sh := [.int .i64, .int .i64, .sl 194 h_4]
abbrev h_8 : List Sh := [.int .i64, .int .i64, .sl 175 h_4]
abbrev h_9 : List Sh := [.int .i64, .int .i64, .sl 5 [.int .u8], .sl 5 [.int .u8], .int .i64, .sl 5 [.int .u8], .sl 5 [.int .u8], .int .i64, .int .i64, .sl 5 [.int .u8], .sl 5 [.int .u8]]
abbrev h_10 : List Sh := [.int .i64, .sl 5 [.int .u8], .int .i64, .sl 5 [.int .u8], .int .i64, .int .i64, .sl 3 [.int .i64], .int .i64, .sl 5 [.int .u8], .int .i64, .int .i64, .sl 3 [.int .i64], .bool, .int .i64, .sl 5 [.int .u8]]
abbrev h_11 : List Sh := [.int .i64, .sl 5 [.int .u8], .sl 5 [.int .u8], .int .i64, .sl 5 [.int .u8], .int .i64, .sl 5 [.int .u8], .int .i64, .int .i64, .sl 3 [.int .i64], .int .i64, .sl 5 [.int .u8], .int .i64, .int .i64, .sl 3 [.int .i64], .bool, .int .i64, .sl 5 [.int .u8], .int .i64, .int .i64, .sl 194 h_4, .int .i64, .int .i64, .bool]
abbrev h_12 : List Sh := [.int .i64, .sl 5 [.int .u8], .sl 5 [.int .u8], .int .i64, .sl 5 [.int .u8], .int .i64, .sl 5 [.int .u8], .int .i64, .int .i64, .sl 3 [.int .i64], .int .i64, .sl 5 [.int .u8], .int .i64, .int .i64, .sl 3 [.int .i64], .bool, .int .i64, .sl 5 [.int .u8], .int .i64, .int .i64, .sl 175 h_4, .int .i64, .int .i64, .bool]
abbrev h_13 : List Sh := [.sl 34 [.sl 5 [.int .u8]], .sl 5 [.int .u8], .sl 5 [.int .u8], .int .i64, .int .i64, .sl 85 h_11, .sl 185 h_1]
abbrev h_14 : List Sh := [.sl 34 [.sl 5 [.int .u8]], .sl 5 [.int .u8], .sl 5 [.int .u8], .int .i64, .int .i64, .sl 97 h_12, .sl 182 h_1]
def tys : List (Nat × Ty) := [(3, ⟨false, [.int .i64], [], false⟩),
  (4, ⟨false, [.bool], [], false⟩),
  (5, ⟨false, [.int .u8], [], false⟩),
  (9, ⟨false, [.str], [], false⟩),
  (34, ⟨false, [.sl 5 [.int .u8]], [], false⟩),
  (49, ⟨true, [.int .i64, .int .i64, .sl 5 [.int .u8], .sl 5 [.int .u8], .int .i64, .sl 5 [.int .u8], .sl 5 [.int .u8], .int .i64, .int .i64, .sl 5 [.int .u8], .sl 5 [.int .u8]], [(0, 1), (1, 1), (2, 1), (3, 1), (4, 1), (5, 1), (6, 1), (7, 1), (8, 1), (9, 1), (10, 1)], false⟩),
  (74, ⟨false, [.sl 3 [.int .i64]], [], false⟩),
  (102, ⟨false, [.sl 34 [.sl 5 [.int .u8]]], [], false⟩),
  (120, ⟨false, [.sl 163 [.int .i64, .int .i64, .int .i64, .sl 5 [.int .u8]]], [], false⟩),
  (163, ⟨true, [.int .i64, .int .i64, .int .i64, .sl 5 [.int .u8]], [(0, 1), (1, 1), (2, 1), (3, 1)], false⟩),
  (212, ⟨true, [.sl 3 [.int .i64], .sl 5 [.int .u8], .int .i64], [(0, 1), (1, 1), (2, 1)], false⟩),
  (223, ⟨false, [.int .u64], [], false⟩)]
theorem tys_ok : tysB Try.prog tys = true := by kernel_rfl
theorem mixed : Try.prog.follows .mixedOrders = true := by kernel_rfl
def P_l_toByteS : List (Bool × List Sh) := [(false, [.sl 5 [.int .u8]])]
def O_l_toByteS (r : (YBs)) : List RV × List RV := ([rv (false, [.sl 5 [.int .u8]]) r], [])
def C_l_toByteS : Fns := []
def F_l_toByteS : Fun1 := funV P_l_toByteS (fun d => (T_l_toByteS d.1).val) O_l_toByteS
def K_l_toByteS_3 : Sk := ⟨[(0, .v false [(.sl 5 [.int .u8], .ro)]), (3, .v false [(.sl 5 [.int .u8], (.own 4000000))]), (4, .v false [(.int .i64, .nil)])], [], [4000000]⟩
def X_l_toByteS_3 : List (Ex × Sk) := [((.exit 0), ⟨[(3, .v false [(.sl 5 [.int .u8], (.own 4000000))])], [], [4000000]⟩)]
def Q_l_toByteS : Loops := fun i st => cond (Nat.beq i 3) (lam K_l_toByteS_3 4000000 X_l_toByteS_3 B_l_toByteS_3 st) <| .fail
theorem lp_l_toByteS_3 : ∀ d, bod ⟨lookT tys, ctrOf C_l_toByteS, kindOf C_l_toByteS, 3, 4⟩ 0 Try.f43.ntmps Q_l_toByteS (nthLoop Try.f43 0) K_l_toByteS_3 4000000 X_l_toByteS_3 d = B_l_toByteS_3 d := fun d => by kernel_rfl
theorem lo_l_toByteS_3 (cx : Cx) (hp : cx.pin.length ≤ 0) : LoopOk Try.prog cx Try.f43.ntmps Q_l_toByteS (nthLoop Try.f43 0) := loop_of (cfgOk_of mixed tys_ok (show FnsOk Try.prog C_l_toByteS from trivial)) hp (all_of (by kernel_rfl : loopsOf (nthLoop Try.f43 0) = []) trivial) (by kernel_rfl) lp_l_toByteS_3
theorem e_l_toByteS : ∀ d, pcall ⟨lookT tys, ctrOf C_l_toByteS, kindOf C_l_toByteS, 3, 4⟩ 0 Q_l_toByteS Try.f43 .plain (mkA P_l_toByteS d) = (T_l_toByteS d.1).run fun r => some (O_l_toByteS r) := fun d => by kernel_rfl
theorem fn_l_toByteS : Fn Try.prog 43 .plain F_l_toByteS := fn_of (cfgOk_of mixed tys_ok (show FnsOk Try.prog C_l_toByteS from trivial)) Try.func43 (by kernel_rfl) (by kernel_rfl) (fun cx b hp hb => all_of (by kernel_rfl : loopsOf (Try.f43.body.getD .skip) = [nthLoop Try.f43 0]) ⟨lo_l_toByteS_3 cx hp, trivial⟩ b hb) (R := (YBs)) (T := fun (d : aden P_l_toByteS) => T_l_toByteS d.1) e_l_toByteS
def P_s_l1In : List (Bool × List Sh) := [(false, [.int .i64]), (false, [.int .i64]), (false, [.int .i64])]
def O_s_l1In (r : (Bool × Unit)) : List RV × List RV := ([rv (false, [.bool]) r], [])
def C_s_l1In : Fns := []
def F_s_l1In : Fun1 := funV P_s_l1In (fun d => (T_s_l1In d.1 d.2.1 d.2.2.1).val) O_s_l1In
def Q_s_l1In : Loops := fun _ _ => .fail
theorem e_s_l1In : ∀ d, pcall ⟨lookT tys, ctrOf C_s_l1In, kindOf C_s_l1In, 3, 4⟩ 0 Q_s_l1In Try.f83 .plain (mkA P_s_l1In d) = (T_s_l1In d.1 d.2.1 d.2.2.1).run fun r => some (O_s_l1In r) := fun d => by kernel_rfl
theorem fn_s_l1In : Fn Try.prog 83 .plain F_s_l1In := fn_of (cfgOk_of mixed tys_ok (show FnsOk Try.prog C_s_l1In from trivial)) Try.func83 (by kernel_rfl) (by kernel_rfl) (fun cx b hp hb => all_of (by kernel_rfl : loopsOf (Try.f83.body.getD .skip) = []) trivial b hb) (R := (Bool × Unit)) (T := fun (d : aden P_s_l1In) => T_s_l1In d.1 d.2.1 d.2.2.1) e_s_l1In
def P_s_PutN : List (Bool × List Sh) := [(false, [.sl 5 [.int .u8]]), (false, [.int .i64]), (false, [.int .i64])]
def O_s_PutN (r : (YBs)) : List RV × List RV := ([rv (false, [.sl 5 [.int .u8]]) r], [])
def C_s_PutN : Fns := []
def F_s_PutN : Fun1 := funV P_s_PutN (fun d => (T_s_PutN d.1 d.2.1 d.2.2.1).val) O_s_PutN
def K_s_PutN_5 : Sk := ⟨[(1, .v false [(.int .i64, .nil)]), (7, .v false [(.sl 5 [.int .u8], (.own 6000000))]), (8, .v false [(.int .i64, .nil)])], [], [6000000]⟩
def X_s_PutN_5 : List (Ex × Sk) := [((.exit 0), ⟨[(7, .v false [(.sl 5 [.int .u8], (.own 6000000))])], [], [6000000]⟩)]
def Q_s_PutN : Loops := fun i st => cond (Nat.beq i 5) (lam K_s_PutN_5 6000000 X_s_PutN_5 B_s_PutN_5 st) <| .fail
theorem lp_s_PutN_5 : ∀ d, bod ⟨lookT tys, ctrOf C_s_PutN, kindOf C_s_PutN, 3, 4⟩ 0 Try.f116.ntmps Q_s_PutN (nthLoop Try.f116 0) K_s_PutN_5 6000000 X_s_PutN_5 d = B_s_PutN_5 d := fun d => by kernel_rfl
theorem lo_s_PutN_5 (cx : Cx) (hp : cx.pin.length ≤ 0) : LoopOk Try.prog cx Try.f116.ntmps Q_s_PutN (nthLoop Try.f116 0) := loop_of (cfgOk_of mixed tys_ok (show FnsOk Try.prog C_s_PutN from trivial)) hp (all_of (by kernel_rfl : loopsOf (nthLoop Try.f116 0) = []) trivial) (by kernel_rfl) lp_s_PutN_5
theorem e_s_PutN : ∀ d, pcall ⟨lookT tys, ctrOf C_s_PutN, kindOf C_s_PutN, 3, 4⟩ 0 Q_s_PutN Try.f116 .plain (mkA P_s_PutN d) = (T_s_PutN d.1 d.2.1 d.2.2.1).run fun r => some (O_s_PutN r) := fun d => by kernel_rfl
theorem fn_s_PutN : Fn Try.prog 116 .plain F_s_PutN := fn_of (cfgOk_of mixed tys_ok (show FnsOk Try.prog C_s_PutN from trivial)) Try.func116 (by kernel_rfl) (by kernel_rfl) (fun cx b hp hb => all_of (by kernel_rfl : loopsOf (Try.f116.body.getD .skip) = [nthLoop Try.f116 0]) ⟨lo_s_PutN_5 cx hp, trivial⟩ b hb) (R := (YBs)) (T := fun (d : aden P_s_PutN) => T_s_PutN d.1 d.2.1 d.2.2.1) e_s_PutN
def P_s_HeadOf : List (Bool × List Sh) := [(false, [.int .i64]), (false, [.sl 5 [.int .u8]]), (false, [.int .i64]), (false, [.int .i64])]
def O_s_HeadOf (r : (YBs)) : List RV × List RV := ([rv (false, [.sl 5 [.int .u8]]) r], [])
def C_s_HeadOf : Fns := [(83, .plain, F_s_l1In), (116, .plain, F_s_PutN)]
def F_s_HeadOf : Fun1 := funV P_s_HeadOf (fun d => (T_s_HeadOf d.1 d.2.1 d.2.2.1 d.2.2.2.1).val) O_s_HeadOf
def Q_s_HeadOf : Loops := fun _ _ => .fail
theorem e_s_HeadOf : ∀ d, pcall ⟨lookT tys, ctrOf C_s_HeadOf, kindOf C_s_HeadOf, 3, 4⟩ 0 Q_s_HeadOf Try.f151 .plain (mkA P_s_HeadOf d) = (T_s_HeadOf d.1 d.2.1 d.2.2.1 d.2.2.2.1).run fun r => some (O_s_HeadOf r) := fun d => by kernel_rfl
theorem fn_s_HeadOf : Fn Try.prog 151 .plain F_s_HeadOf := fn_of (cfgOk_of mixed tys_ok (show FnsOk Try.prog C_s_HeadOf from ⟨fn_s_l1In, fn_s_PutN, trivial⟩)) Try.func151 (by kernel_rfl) (by kernel_rfl) (fun cx b hp hb => all_of (by kernel_rfl : loopsOf (Try.f151.body.getD .skip) = []) trivial b hb) (R := (YBs)) (T := fun (d : aden P_s_HeadOf) => T_s_HeadOf d.1 d.2.1 d.2.2.1 d.2.2.2.1) e_s_HeadOf
def P_s_Sealed : List (Bool × List Sh) := [(false, [.int .i64])]
def O_s_Sealed (r : (Bool × Unit)) : List RV × List RV := ([rv (false, [.bool]) r], [])
def C_s_Sealed : Fns := [(83, .plain, F_s_l1In)]
def F_s_Sealed : Fun1 := funV P_s_Sealed (fun d => (T_s_Sealed d.1).val) O_s_Sealed
def Q_s_Sealed : Loops := fun _ _ => .fail
theorem e_s_Sealed : ∀ d, pcall ⟨lookT tys, ctrOf C_s_Sealed, kindOf C_s_Sealed, 3, 4⟩ 0 Q_s_Sealed Try.f152 .plain (mkA P_s_Sealed d) = (T_s_Sealed d.1).run fun r => some (O_s_Sealed r) := fun d => by kernel_rfl
theorem fn_s_Sealed : Fn Try.prog 152 .plain F_s_Sealed := fn_of (cfgOk_of mixed tys_ok (show FnsOk Try.prog C_s_Sealed from ⟨fn_s_l1In, trivial⟩)) Try.func152 (by kernel_rfl) (by kernel_rfl) (fun cx b hp hb => all_of (by kernel_rfl : loopsOf (Try.f152.body.getD .skip) = []) trivial b hb) (R := (Bool × Unit)) (T := fun (d : aden P_s_Sealed) => T_s_Sealed d.1) e_s_Sealed
def P_s_l7Body : List (Bool × List Sh) := [(false, [.int .i64]), (false, [.int .i64])]
def O_s_l7Body (r : (Bool × Unit)) : List RV × List RV := ([rv (false, [.bool]) r], [])
def C_s_l7Body : Fns := []
def F_s_l7Body : Fun1 := funV P_s_l7Body (fun d => (T_s_l7Body d.1 d.2.1).val) O_s_l7Body
def Q_s_l7Body : Loops := fun _ _ => .fail
theorem e_s_l7Body : ∀ d, pcall ⟨lookT tys, ctrOf C_s_l7Body, kindOf C_s_l7Body, 3, 4⟩ 0 Q_s_l7Body Try.f153 .plain (mkA P_s_l7Body d) = (T_s_l7Body d.1 d.2.1).run fun r => some (O_s_l7Body r) := fun d => by kernel_rfl
theorem fn_s_l7Body : Fn Try.prog 153 .plain F_s_l7Body := fn_of (cfgOk_of mixed tys_ok (show FnsOk Try.prog C_s_l7Body from trivial)) Try.func153 (by kernel_rfl) (by kernel_rfl) (fun cx b hp hb => all_of (by kernel_rfl : loopsOf (Try.f153.body.getD .skip) = []) trivial b hb) (R := (Bool × Unit)) (T := fun (d : aden P_s_l7Body) => T_s_l7Body d.1 d.2.1) e_s_l7Body
def P_s_Pad : List (Bool × List Sh) := [(false, [.int .i64])]
def O_s_Pad (r : (YBs)) : List RV × List RV := ([rv (false, [.sl 5 [.int .u8]]) r], [])
def C_s_Pad : Fns := [(116, .plain, F_s_PutN)]
def F_s_Pad : Fun1 := funV P_s_Pad (fun d => (T_s_Pad d.1).val) O_s_Pad
def K_s_Pad_4 : Sk := ⟨[(0, .v false [(.int .i64, .nil)]), (3, .v false [(.sl 5 [.int .u8], (.own 5000000))])], [], [5000000]⟩
def X_s_Pad_4 : List (Ex × Sk) := [((.exit 0), ⟨[(0, .v false [(.int .i64, .nil)]), (3, .v false [(.sl 5 [.int .u8], (.own 5000000))])], [], [5000000]⟩)]
def Q_s_Pad : Loops := fun i st => cond (Nat.beq i 4) (lam K_s_Pad_4 5000000 X_s_Pad_4 B_s_Pad_4 st) <| .fail
theorem lp_s_Pad_4 : ∀ d, bod ⟨lookT tys, ctrOf C_s_Pad, kindOf C_s_Pad, 3, 4⟩ 0 Try.f188.ntmps Q_s_Pad (nthLoop Try.f188 0) K_s_Pad_4 5000000 X_s_Pad_4 d = B_s_Pad_4 d := fun d => by kernel_rfl
theorem lo_s_Pad_4 (cx : Cx) (hp : cx.pin.length ≤ 0) : LoopOk Try.prog cx Try.f188.ntmps Q_s_Pad (nthLoop Try.f188 0) := loop_of (cfgOk_of mixed tys_ok (show FnsOk Try.prog C_s_Pad from ⟨fn_s_PutN, trivial⟩)) hp (all_of (by kernel_rfl : loopsOf (nthLoop Try.f188 0) = []) trivial) (by kernel_rfl) lp_s_Pad_4
theorem e_s_Pad : ∀ d, pcall ⟨lookT tys, ctrOf C_s_Pad, kindOf C_s_Pad, 3, 4⟩ 0 Q_s_Pad Try.f188 .plain (mkA P_s_Pad d) = (T_s_Pad d.1).run fun r => some (O_s_Pad r) := fun d => by kernel_rfl
theorem fn_s_Pad : Fn Try.prog 188 .plain F_s_Pad := fn_of (cfgOk_of mixed tys_ok (show FnsOk Try.prog C_s_Pad from ⟨fn_s_PutN, trivial⟩)) Try.func188 (by kernel_rfl) (by kernel_rfl) (fun cx b hp hb => all_of (by kernel_rfl : loopsOf (Try.f188.body.getD .skip) = [nthLoop Try.f188 0]) ⟨lo_s_Pad_4 cx hp, trivial⟩ b hb) (R := (YBs)) (T := fun (d : aden P_s_Pad) => T_s_Pad d.1) e_s_Pad
def P_s_Start : List (Bool × List Sh) := []
def O_s_Start (r : ((List YI) × Unit)) : List RV × List RV := ([rv (false, [.sl 3 [.int .i64]]) r], [])
def C_s_Start : Fns := []
def F_s_Start : Fun1 := funV P_s_Start (fun d => (T_s_Start ).val) O_s_Start
def Q_s_Start : Loops := fun _ _ => .fail
theorem e_s_Start : ∀ d, pcall ⟨lookT tys, ctrOf C_s_Start, kindOf C_s_Start, 3, 4⟩ 0 Q_s_Start Try.f189 .plain (mkA P_s_Start d) = (T_s_Start ).run fun r => some (O_s_Start r) := fun d => by kernel_rfl
theorem fn_s_Start : Fn Try.prog 189 .plain F_s_Start := fn_of (cfgOk_of mixed tys_ok (show FnsOk Try.prog C_s_Start from trivial)) Try.func189 (by kernel_rfl) (by kernel_rfl) (fun cx b hp hb => all_of (by kernel_rfl : loopsOf (Try.f189.body.getD .skip) = []) trivial b hb) (R := ((List YI) × Unit)) (T := fun (d : aden P_s_Start) => T_s_Start ) e_s_Start
def P_s_l2Words : List (Bool × List Sh) := [(false, [.sl 3 [.int .i64]])]
def O_s_l2Words (r : (Bool × Unit)) : List RV × List RV := ([rv (false, [.bool]) r], [])
def C_s_l2Words : Fns := [(83, .plain, F_s_l1In)]
def F_s_l2Words : Fun1 := funV P_s_l2Words (fun d => (T_s_l2Words d.1).val) O_s_l2Words
def K_s_l2Words_2 : Sk := ⟨[(0, .v false [(.sl 3 [.int .i64], .ro)]), (3, .v false [(.int .i64, .nil)])], [], []⟩
def X_s_l2Words_2 : List (Ex × Sk) := [(.ret, ⟨[(2, .v false [(.bool, .nil)])], [], []⟩), ((.exit 0), ⟨[(0, .v false [(.sl 3 [.int .i64], .ro)])], [], []⟩)]
def Q_s_l2Words : Loops := fun i st => cond (Nat.beq i 2) (lam K_s_l2Words_2 3000000 X_s_l2Words_2 B_s_l2Words_2 st) <| .fail
theorem lp_s_l2Words_2 : ∀ d, bod ⟨lookT tys, ctrOf C_s_l2Words, kindOf C_s_l2Words, 3, 4⟩ 0 Try.f195.ntmps Q_s_l2Words (nthLoop Try.f195 0) K_s_l2Words_2 3000000 X_s_l2Words_2 d = B_s_l2Words_2 d := fun d => by kernel_rfl
theorem lo_s_l2Words_2 (cx : Cx) (hp : cx.pin.length ≤ 0) : LoopOk Try.prog cx Try.f195.ntmps Q_s_l2Words (nthLoop Try.f195 0) := loop_of (cfgOk_of mixed tys_ok (show FnsOk Try.prog C_s_l2Words from ⟨fn_s_l1In, trivial⟩)) hp (all_of (by kernel_rfl : loopsOf (nthLoop Try.f195 0) = []) trivial) (by kernel_rfl) lp_s_l2Words_2
theorem e_s_l2Words : ∀ d, pcall ⟨lookT tys, ctrOf C_s_l2Words, kindOf C_s_l2Words, 3, 4⟩ 0 Q_s_l2Words Try.f195 .plain (mkA P_s_l2Words d) = (T_s_l2Words d.1).run fun r => some (O_s_l2Words r) := fun d => by kernel_rfl
theorem fn_s_l2Words : Fn Try.prog 195 .plain F_s_l2Words := fn_of (cfgOk_of mixed tys_ok (show FnsOk Try.prog C_s_l2Words from ⟨fn_s_l1In, trivial⟩)) Try.func195 (by kernel_rfl) (by kernel_rfl) (fun cx b hp hb => all_of (by kernel_rfl : loopsOf (Try.f195.body.getD .skip) = [nthLoop Try.f195 0]) ⟨lo_s_l2Words_2 cx hp, trivial⟩ b hb) (R := (Bool × Unit)) (T := fun (d : aden P_s_l2Words) => T_s_l2Words d.1) e_s_l2Words
def P_s_l2K : List (Bool × List Sh) := []
def O_s_l2K (r : ((List YI) × Unit)) : List RV × List RV := ([rv (false, [.sl 3 [.int .i64]]) r], [])
def C_s_l2K : Fns := []
def F_s_l2K : Fun1 := funV P_s_l2K (fun d => (T_s_l2K ).val) O_s_l2K
def Q_s_l2K : Loops := fun _ _ => .fail
theorem e_s_l2K : ∀ d, pcall ⟨lookT tys, ctrOf C_s_l2K, kindOf C_s_l2K, 3, 4⟩ 0 Q_s_l2K Try.f196 .plain (mkA P_s_l2K d) = (T_s_l2K ).run fun r => some (O_s_l2K r) := fun d => by kernel_rfl
theorem fn_s_l2K : Fn Try.prog 196 .plain F_s_l2K := fn_of (cfgOk_of mixed tys_ok (show FnsOk Try.prog C_s_l2K from trivial)) Try.func196 (by kernel_rfl) (by kernel_rfl) (fun cx b hp hb => all_of (by kernel_rfl : loopsOf (Try.f196.body.getD .skip) = []) trivial b hb) (R := ((List YI) × Unit)) (T := fun (d : aden P_s_l2K) => T_s_l2K ) e_s_l2K
def P_s_GetN : List (Bool × List Sh) := [(false, [.sl 5 [.int .u8]]), (false, [.int .i64]), (false, [.int .i64])]
def O_s_GetN (r : (YI) × (YI) × (Bool × Unit)) : List RV × List RV := ([rv (false, [.int .i64]) r.1, rv (false, [.int .i64]) r.2.1, rv (false, [.bool]) r.2.2], [])
def C_s_GetN : Fns := []
def F_s_GetN : Fun1 := funV P_s_GetN (fun d => (T_s_GetN d.1 d.2.1 d.2.2.1).val) O_s_GetN
def K_s_GetN_5 : Sk := ⟨[(0, .v false [(.sl 5 [.int .u8], .ro)]), (1, .v false [(.int .i64, .nil)]), (2, .v false [(.int .i64, .nil)]), (9, .v false [(.int .i64, .nil)]), (10, .v false [(.int .i64, .nil)])], [], []⟩
def X_s_GetN_5 : List (Ex × Sk) := [((.exit 0), ⟨[(1, .v false [(.int .i64, .nil)]), (2, .v false [(.int .i64, .nil)]), (9, .v false [(.int .i64, .nil)])], [], []⟩)]
def Q_s_GetN : Loops := fun i st => cond (Nat.beq i 5) (lam K_s_GetN_5 6000000 X_s_GetN_5 B_s_GetN_5 st) <| .fail
theorem lp_s_GetN_5 : ∀ d, bod ⟨lookT tys, ctrOf C_s_GetN, kindOf C_s_GetN, 3, 4⟩ 0 Try.f204.ntmps Q_s_GetN (nthLoop Try.f204 0) K_s_GetN_5 6000000 X_s_GetN_5 d = B_s_GetN_5 d := fun d => by kernel_rfl
theorem lo_s_GetN_5 (cx : Cx) (hp : cx.pin.length ≤ 0) : LoopOk Try.prog cx Try.f204.ntmps Q_s_GetN (nthLoop Try.f204 0) := loop_of (cfgOk_of mixed tys_ok (show FnsOk Try.prog C_s_GetN from trivial)) hp (all_of (by kernel_rfl : loopsOf (nthLoop Try.f204 0) = []) trivial) (by kernel_rfl) lp_s_GetN_5
theorem e_s_GetN : ∀ d, pcall ⟨lookT tys, ctrOf C_s_GetN, kindOf C_s_GetN, 3, 4⟩ 0 Q_s_GetN Try.f204 .plain (mkA P_s_GetN d) = (T_s_GetN d.1 d.2.1 d.2.2.1).run fun r => some (O_s_GetN r) := fun d => by kernel_rfl
theorem fn_s_GetN : Fn Try.prog 204 .plain F_s_GetN := fn_of (cfgOk_of mixed tys_ok (show FnsOk Try.prog C_s_GetN from trivial)) Try.func204 (by kernel_rfl) (by kernel_rfl) (fun cx b hp hb => all_of (by kernel_rfl : loopsOf (Try.f204.body.getD .skip) = [nthLoop Try.f204 0]) ⟨lo_s_GetN_5 cx hp, trivial⟩ b hb) (R := (YI) × (YI) × (Bool × Unit)) (T := fun (d : aden P_s_GetN) => T_s_GetN d.1 d.2.1 d.2.2.1) e_s_GetN
def P_s_Rot : List (Bool × List Sh) := [(false, [.int .i64]), (false, [.int .i64])]
def O_s_Rot (r : (YI)) : List RV × List RV := ([rv (false, [.int .i64]) r], [])
def C_s_Rot : Fns := []
def F_s_Rot : Fun1 := funV P_s_Rot (fun d => (T_s_Rot d.1 d.2.1).val) O_s_Rot
def Q_s_Rot : Loops := fun _ _ => .fail
theorem e_s_Rot : ∀ d, pcall ⟨lookT tys, ctrOf C_s_Rot, kindOf C_s_Rot, 3, 4⟩ 0 Q_s_Rot Try.f198 .plain (mkA P_s_Rot d) = (T_s_Rot d.1 d.2.1).run fun r => some (O_s_Rot r) := fun d => by kernel_rfl
theorem fn_s_Rot : Fn Try.prog 198 .plain F_s_Rot := fn_of (cfgOk_of mixed tys_ok (show FnsOk Try.prog C_s_Rot from trivial)) Try.func198 (by kernel_rfl) (by kernel_rfl) (fun cx b hp hb => all_of (by kernel_rfl : loopsOf (Try.f198.body.getD .skip) = []) trivial b hb) (R := (YI)) (T := fun (d : aden P_s_Rot) => T_s_Rot d.1 d.2.1) e_s_Rot
def P_s_Schedule : List (Bool × List Sh) := [(false, [.sl 5 [.int .u8]])]
def O_s_Schedule (r : ((List YI) × Unit)) : List RV × List RV := ([rv (false, [.sl 3 [.int .i64]]) r], [])
def C_s_Schedule : Fns := [(204, .plain, F_s_GetN), (198, .plain, F_s_Rot)]
def F_s_Schedule : Fun1 := funV P_s_Schedule (fun d => (T_s_Schedule d.1).val) O_s_Schedule
def K_s_Schedule_10 : Sk := ⟨[(3, .v false [(.sl 3 [.int .i64], (.own 11000000))]), (8, .v false [(.int .i64, .nil)])], [], [11000000]⟩
def X_s_Schedule_10 : List (Ex × Sk) := [((.exit 2), ⟨[(3, .v false [(.sl 3 [.int .i64], (.own 11000000))])], [], [11000000]⟩)]
def K_s_Schedule_5 : Sk := ⟨[(0, .v false [(.sl 5 [.int .u8], .ro)]), (3, .v false [(.sl 3 [.int .i64], (.own 6000000))]), (4, .v false [(.int .i64, .nil)])], [], [6000000]⟩
def X_s_Schedule_5 : List (Ex × Sk) := [((.exit 0), ⟨[(3, .v false [(.sl 3 [.int .i64], (.own 6000000))])], [], [6000000]⟩)]
def Q_s_Schedule : Loops := fun i st => cond (Nat.beq i 5) (lam K_s_Schedule_5 6000000 X_s_Schedule_5 B_s_Schedule_5 st) <| cond (Nat.beq i 10) (lam K_s_Schedule_10 11000000 X_s_Schedule_10 B_s_Schedule_10 st) <| .fail
theorem lp_s_Schedule_5 : ∀ d, bod ⟨lookT tys, ctrOf C_s_Schedule, kindOf C_s_Schedule, 3, 4⟩ 0 Try.f197.ntmps Q_s_Schedule (nthLoop Try.f197 0) K_s_Schedule_5 6000000 X_s_Schedule_5 d = B_s_Schedule_5 d := fun d => by kernel_rfl
theorem lo_s_Schedule_5 (cx : Cx) (hp : cx.pin.length ≤ 0) : LoopOk Try.prog cx Try.f197.ntmps Q_s_Schedule (nthLoop Try.f197 0) := loop_of (cfgOk_of mixed tys_ok (show FnsOk Try.prog C_s_Schedule from ⟨fn_s_GetN, fn_s_Rot, trivial⟩)) hp (all_of (by kernel_rfl : loopsOf (nthLoop Try.f197 0) = []) trivial) (by kernel_rfl) lp_s_Schedule_5
theorem lp_s_Schedule_10 : ∀ d, bod ⟨lookT tys, ctrOf C_s_Schedule, kindOf C_s_Schedule, 3, 4⟩ 0 Try.f197.ntmps Q_s_Schedule (nthLoop Try.f197 1) K_s_Schedule_10 11000000 X_s_Schedule_10 d = B_s_Schedule_10 d := fun d => by kernel_rfl
theorem lo_s_Schedule_10 (cx : Cx) (hp : cx.pin.length ≤ 0) : LoopOk Try.prog cx Try.f197.ntmps Q_s_Schedule (nthLoop Try.f197 1) := loop_of (cfgOk_of mixed tys_ok (show FnsOk Try.prog C_s_Schedule from ⟨fn_s_GetN, fn_s_Rot, trivial⟩)) hp (all_of (by kernel_rfl : loopsOf (nthLoop Try.f197 1) = []) trivial) (by kernel_rfl) lp_s_Schedule_10
theorem e_s_Schedule : ∀ d, pcall ⟨lookT tys, ctrOf C_s_Schedule, kindOf C_s_Schedule, 3, 4⟩ 0 Q_s_Schedule Try.f197 .plain (mkA P_s_Schedule d) = (T_s_Schedule d.1).run fun r => some (O_s_Schedule r) := fun d => by kernel_rfl
theorem fn_s_Schedule : Fn Try.prog 197 .plain F_s_Schedule := fn_of (cfgOk_of mixed tys_ok (show FnsOk Try.prog C_s_Schedule from ⟨fn_s_GetN, fn_s_Rot, trivial⟩)) Try.func197 (by kernel_rfl) (by kernel_rfl) (fun cx b hp hb => all_of (by kernel_rfl : loopsOf (Try.f197.body.getD .skip) = [nthLoop Try.f197 0, nthLoop Try.f197 1]) ⟨lo_s_Schedule_5 cx hp, lo_s_Schedule_10 cx hp, trivial⟩ b hb) (R := ((List YI) × Unit)) (T := fun (d : aden P_s_Schedule) => T_s_Schedule d.1) e_s_Schedule
def P_s_Compress : List (Bool × List Sh) := [(false, [.sl 3 [.int .i64]]), (false, [.sl 5 [.int .u8]])]
def O_s_Compress (r : ((List YI) × Unit)) : List RV × List RV := ([rv (false, [.sl 3 [.int .i64]]) r], [])
def C_s_Compress : Fns := [(195, .plain, F_s_l2Words), (196, .plain, F_s_l2K), (197, .plain, F_s_Schedule), (198, .plain, F_s_Rot)]
def F_s_Compress : Fun1 := funV P_s_Compress (fun d => (T_s_Compress d.1 d.2.1).val) O_s_Compress
def K_s_Compress_22 : Sk := ⟨[(0, .v false [(.sl 3 [.int .i64], .ro)]), (5, .v false [(.sl 3 [.int .i64], (.own 23000000))]), (19, .v false [(.sl 3 [.int .i64], (.own 23000001))]), (20, .v false [(.int .i64, .nil)])], [], [23000000, 23000001]⟩
def X_s_Compress_22 : List (Ex × Sk) := [((.exit 2), ⟨[(5, .v false [(.sl 3 [.int .i64], (.own 23000000))])], [], [23000000]⟩)]
def K_s_Compress_8 : Sk := ⟨[(0, .v false [(.sl 3 [.int .i64], .ro)]), (5, .v false [(.sl 3 [.int .i64], (.own 9000000))]), (6, .v false [(.sl 3 [.int .i64], (.own 9000001))]), (7, .v false [(.sl 3 [.int .i64], (.own 9000002))]), (8, .v false [(.int .i64, .nil)]), (9, .v false [(.int .i64, .nil)]), (10, .v false [(.int .i64, .nil)]), (11, .v false [(.int .i64, .nil)]), (12, .v false [(.int .i64, .nil)]), (13, .v false [(.int .i64, .nil)]), (14, .v false [(.int .i64, .nil)]), (15, .v false [(.int .i64, .nil)]), (16, .v false [(.int .i64, .nil)])], [], [9000000, 9000001, 9000002]⟩
def X_s_Compress_8 : List (Ex × Sk) := [((.exit 0), ⟨[(0, .v false [(.sl 3 [.int .i64], .ro)]), (5, .v false [(.sl 3 [.int .i64], (.own 9000000))]), (8, .v false [(.int .i64, .nil)]), (9, .v false [(.int .i64, .nil)]), (10, .v false [(.int .i64, .nil)]), (11, .v false [(.int .i64, .nil)]), (12, .v false [(.int .i64, .nil)]), (13, .v false [(.int .i64, .nil)]), (14, .v false [(.int .i64, .nil)]), (15, .v false [(.int .i64, .nil)])], [], [9000000]⟩)]
def Q_s_Compress : Loops := fun i st => cond (Nat.beq i 8) (lam K_s_Compress_8 9000000 X_s_Compress_8 B_s_Compress_8 st) <| cond (Nat.beq i 22) (lam K_s_Compress_22 23000000 X_s_Compress_22 B_s_Compress_22 st) <| .fail
theorem lp_s_Compress_8 : ∀ d, bod ⟨lookT tys, ctrOf C_s_Compress, kindOf C_s_Compress, 3, 4⟩ 0 Try.f190.ntmps Q_s_Compress (nthLoop Try.f190 0) K_s_Compress_8 9000000 X_s_Compress_8 d = B_s_Compress_8 d := fun d => by kernel_rfl
theorem lo_s_Compress_8 (cx : Cx) (hp : cx.pin.length ≤ 0) : LoopOk Try.prog cx Try.f190.ntmps Q_s_Compress (nthLoop Try.f190 0) := loop_of (cfgOk_of mixed tys_ok (show FnsOk Try.prog C_s_Compress from ⟨fn_s_l2Words, fn_s_l2K, fn_s_Schedule, fn_s_Rot, trivial⟩)) hp (all_of (by kernel_rfl : loopsOf (nthLoop Try.f190 0) = []) trivial) (by kernel_rfl) lp_s_Compress_8
theorem lp_s_Compress_22 : ∀ d, bod ⟨lookT tys, ctrOf C_s_Compress, kindOf C_s_Compress, 3, 4⟩ 0 Try.f190.ntmps Q_s_Compress (nthLoop Try.f190 1) K_s_Compress_22 23000000 X_s_Compress_22 d = B_s_Compress_22 d := fun d => by kernel_rfl
theorem lo_s_Compress_22 (cx : Cx) (hp : cx.pin.length ≤ 0) : LoopOk Try.prog cx Try.f190.ntmps Q_s_Compress (nthLoop Try.f190 1) := loop_of (cfgOk_of mixed tys_ok (show FnsOk Try.prog C_s_Compress from ⟨fn_s_l2Words, fn_s_l2K, fn_s_Schedule, fn_s_Rot, trivial⟩)) hp (all_of (by kernel_rfl : loopsOf (nthLoop Try.f190 1) = []) trivial) (by kernel_rfl) lp_s_Compress_22
theorem e_s_Compress : ∀ d, pcall ⟨lookT tys, ctrOf C_s_Compress, kindOf C_s_Compress, 3, 4⟩ 0 Q_s_Compress Try.f190 .plain (mkA P_s_Compress d) = (T_s_Compress d.1 d.2.1).run fun r => some (O_s_Compress r) := fun d => by kernel_rfl
theorem fn_s_Compress : Fn Try.prog 190 .plain F_s_Compress := fn_of (cfgOk_of mixed tys_ok (show FnsOk Try.prog C_s_Compress from ⟨fn_s_l2Words, fn_s_l2K, fn_s_Schedule, fn_s_Rot, trivial⟩)) Try.func190 (by kernel_rfl) (by kernel_rfl) (fun cx b hp hb => all_of (by kernel_rfl : loopsOf (Try.f190.body.getD .skip) = [nthLoop Try.f190 0, nthLoop Try.f190 1]) ⟨lo_s_Compress_8 cx hp, lo_s_Compress_22 cx hp, trivial⟩ b hb) (R := ((List YI) × Unit)) (T := fun (d : aden P_s_Compress) => T_s_Compress d.1 d.2.1) e_s_Compress
def P_s_l2Out : List (Bool × List Sh) := [(false, [.sl 3 [.int .i64]])]
def O_s_l2Out (r : (YBs)) : List RV × List RV := ([rv (false, [.sl 5 [.int .u8]]) r], [])
def C_s_l2Out : Fns := [(116, .plain, F_s_PutN)]
def F_s_l2Out : Fun1 := funV P_s_l2Out (fun d => (T_s_l2Out d.1).val) O_s_l2Out
def K_s_l2Out_3 : Sk := ⟨[(0, .v false [(.sl 3 [.int .i64], .ro)]), (3, .v false [(.sl 5 [.int .u8], (.own 4000000))]), (4, .v false [(.int .i64, .nil)])], [], [4000000]⟩
def X_s_l2Out_3 : List (Ex × Sk) := [((.exit 0), ⟨[(3, .v false [(.sl 5 [.int .u8], (.own 4000000))])], [], [4000000]⟩)]
def Q_s_l2Out : Loops := fun i st => cond (Nat.beq i 3) (lam K_s_l2Out_3 4000000 X_s_l2Out_3 B_s_l2Out_3 st) <| .fail
theorem lp_s_l2Out_3 : ∀ d, bod ⟨lookT tys, ctrOf C_s_l2Out, kindOf C_s_l2Out, 3, 4⟩ 0 Try.f191.ntmps Q_s_l2Out (nthLoop Try.f191 0) K_s_l2Out_3 4000000 X_s_l2Out_3 d = B_s_l2Out_3 d := fun d => by kernel_rfl
theorem lo_s_l2Out_3 (cx : Cx) (hp : cx.pin.length ≤ 0) : LoopOk Try.prog cx Try.f191.ntmps Q_s_l2Out (nthLoop Try.f191 0) := loop_of (cfgOk_of mixed tys_ok (show FnsOk Try.prog C_s_l2Out from ⟨fn_s_PutN, trivial⟩)) hp (all_of (by kernel_rfl : loopsOf (nthLoop Try.f191 0) = []) trivial) (by kernel_rfl) lp_s_l2Out_3
theorem e_s_l2Out : ∀ d, pcall ⟨lookT tys, ctrOf C_s_l2Out, kindOf C_s_l2Out, 3, 4⟩ 0 Q_s_l2Out Try.f191 .plain (mkA P_s_l2Out d) = (T_s_l2Out d.1).run fun r => some (O_s_l2Out r) := fun d => by kernel_rfl
theorem fn_s_l2Out : Fn Try.prog 191 .plain F_s_l2Out := fn_of (cfgOk_of mixed tys_ok (show FnsOk Try.prog C_s_l2Out from ⟨fn_s_PutN, trivial⟩)) Try.func191 (by kernel_rfl) (by kernel_rfl) (fun cx b hp hb => all_of (by kernel_rfl : loopsOf (Try.f191.body.getD .skip) = [nthLoop Try.f191 0]) ⟨lo_s_l2Out_3 cx hp, trivial⟩ b hb) (R := (YBs)) (T := fun (d : aden P_s_l2Out) => T_s_l2Out d.1) e_s_l2Out
def P_s_Sha : List (Bool × List Sh) := [(false, [.sl 5 [.int .u8]])]
def O_s_Sha (r : (YBs)) : List RV × List RV := ([rv (false, [.sl 5 [.int .u8]]) r], [])
def C_s_Sha : Fns := [(188, .plain, F_s_Pad), (189, .plain, F_s_Start), (190, .plain, F_s_Compress), (191, .plain, F_s_l2Out)]
def F_s_Sha : Fun1 := funV P_s_Sha (fun d => (T_s_Sha d.1).val) O_s_Sha
def K_s_Sha_6 : Sk := ⟨[(3, .v false [(.sl 5 [.int .u8], (.own 7000000))]), (4, .v false [(.sl 3 [.int .i64], (.own 7000001))]), (5, .v false [(.int .i64, .nil)])], [], [7000000, 7000001]⟩
def X_s_Sha_6 : List (Ex × Sk) := [((.exit 0), ⟨[(4, .v false [(.sl 3 [.int .i64], (.own 7000000))])], [], [7000000]⟩)]
def Q_s_Sha : Loops := fun i st => cond (Nat.beq i 6) (lam K_s_Sha_6 7000000 X_s_Sha_6 B_s_Sha_6 st) <| .fail
theorem lp_s_Sha_6 : ∀ d, bod ⟨lookT tys, ctrOf C_s_Sha, kindOf C_s_Sha, 3, 4⟩ 0 Try.f183.ntmps Q_s_Sha (nthLoop Try.f183 0) K_s_Sha_6 7000000 X_s_Sha_6 d = B_s_Sha_6 d := fun d => by kernel_rfl
theorem lo_s_Sha_6 (cx : Cx) (hp : cx.pin.length ≤ 0) : LoopOk Try.prog cx Try.f183.ntmps Q_s_Sha (nthLoop Try.f183 0) := loop_of (cfgOk_of mixed tys_ok (show FnsOk Try.prog C_s_Sha from ⟨fn_s_Pad, fn_s_Start, fn_s_Compress, fn_s_l2Out, trivial⟩)) hp (all_of (by kernel_rfl : loopsOf (nthLoop Try.f183 0) = []) trivial) (by kernel_rfl) lp_s_Sha_6
theorem e_s_Sha : ∀ d, pcall ⟨lookT tys, ctrOf C_s_Sha, kindOf C_s_Sha, 3, 4⟩ 0 Q_s_Sha Try.f183 .plain (mkA P_s_Sha d) = (T_s_Sha d.1).run fun r => some (O_s_Sha r) := fun d => by kernel_rfl
theorem fn_s_Sha : Fn Try.prog 183 .plain F_s_Sha := fn_of (cfgOk_of mixed tys_ok (show FnsOk Try.prog C_s_Sha from ⟨fn_s_Pad, fn_s_Start, fn_s_Compress, fn_s_l2Out, trivial⟩)) Try.func183 (by kernel_rfl) (by kernel_rfl) (fun cx b hp hb => all_of (by kernel_rfl : loopsOf (Try.f183.body.getD .skip) = [nthLoop Try.f183 0]) ⟨lo_s_Sha_6 cx hp, trivial⟩ b hb) (R := (YBs)) (T := fun (d : aden P_s_Sha) => T_s_Sha d.1) e_s_Sha
def P_s_BlockKey : List (Bool × List Sh) := [(false, [.sl 5 [.int .u8]])]
def O_s_BlockKey (r : (YBs)) : List RV × List RV := ([rv (false, [.sl 5 [.int .u8]]) r], [])
def C_s_BlockKey : Fns := [(183, .plain, F_s_Sha)]
def F_s_BlockKey : Fun1 := funV P_s_BlockKey (fun d => (T_s_BlockKey d.1).val) O_s_BlockKey
def K_s_BlockKey_6 : Sk := ⟨[(3, .v false [(.sl 5 [.int .u8], (.own 7000000))])], [], [7000000]⟩
def X_s_BlockKey_6 : List (Ex × Sk) := [((.exit 0), ⟨[(3, .v false [(.sl 5 [.int .u8], (.own 7000000))])], [], [7000000]⟩)]
def Q_s_BlockKey : Loops := fun i st => cond (Nat.beq i 6) (lam K_s_BlockKey_6 7000000 X_s_BlockKey_6 B_s_BlockKey_6 st) <| .fail
theorem lp_s_BlockKey_6 : ∀ d, bod ⟨lookT tys, ctrOf C_s_BlockKey, kindOf C_s_BlockKey, 3, 4⟩ 0 Try.f182.ntmps Q_s_BlockKey (nthLoop Try.f182 0) K_s_BlockKey_6 7000000 X_s_BlockKey_6 d = B_s_BlockKey_6 d := fun d => by kernel_rfl
theorem lo_s_BlockKey_6 (cx : Cx) (hp : cx.pin.length ≤ 0) : LoopOk Try.prog cx Try.f182.ntmps Q_s_BlockKey (nthLoop Try.f182 0) := loop_of (cfgOk_of mixed tys_ok (show FnsOk Try.prog C_s_BlockKey from ⟨fn_s_Sha, trivial⟩)) hp (all_of (by kernel_rfl : loopsOf (nthLoop Try.f182 0) = []) trivial) (by kernel_rfl) lp_s_BlockKey_6
theorem e_s_BlockKey : ∀ d, pcall ⟨lookT tys, ctrOf C_s_BlockKey, kindOf C_s_BlockKey, 3, 4⟩ 0 Q_s_BlockKey Try.f182 .plain (mkA P_s_BlockKey d) = (T_s_BlockKey d.1).run fun r => some (O_s_BlockKey r) := fun d => by kernel_rfl
theorem fn_s_BlockKey : Fn Try.prog 182 .plain F_s_BlockKey := fn_of (cfgOk_of mixed tys_ok (show FnsOk Try.prog C_s_BlockKey from ⟨fn_s_Sha, trivial⟩)) Try.func182 (by kernel_rfl) (by kernel_rfl) (fun cx b hp hb => all_of (by kernel_rfl : loopsOf (Try.f182.body.getD .skip) = [nthLoop Try.f182 0]) ⟨lo_s_BlockKey_6 cx hp, trivial⟩ b hb) (R := (YBs)) (T := fun (d : aden P_s_BlockKey) => T_s_BlockKey d.1) e_s_BlockKey
def P_s_Hmac : List (Bool × List Sh) := [(false, [.sl 5 [.int .u8]]), (false, [.sl 5 [.int .u8]])]
def O_s_Hmac (r : (YBs)) : List RV × List RV := ([rv (false, [.sl 5 [.int .u8]]) r], [])
def C_s_Hmac : Fns := [(182, .plain, F_s_BlockKey), (183, .plain, F_s_Sha)]
def F_s_Hmac : Fun1 := funV P_s_Hmac (fun d => (T_s_Hmac d.1 d.2.1).val) O_s_Hmac
def K_s_Hmac_7 : Sk := ⟨[(1, .v false [(.sl 5 [.int .u8], .ro)]), (5, .v false [(.sl 5 [.int .u8], (.own 8000000))]), (6, .v false [(.sl 5 [.int .u8], (.own 8000001))]), (7, .v false [(.sl 5 [.int .u8], (.own 8000002))]), (8, .v false [(.int .i64, .nil)])], [], [8000000, 8000001, 8000002]⟩
def X_s_Hmac_7 : List (Ex × Sk) := [((.exit 0), ⟨[(1, .v false [(.sl 5 [.int .u8], .ro)]), (6, .v false [(.sl 5 [.int .u8], (.own 8000000))]), (7, .v false [(.sl 5 [.int .u8], (.own 8000001))])], [], [8000000, 8000001]⟩)]
def Q_s_Hmac : Loops := fun i st => cond (Nat.beq i 7) (lam K_s_Hmac_7 8000000 X_s_Hmac_7 B_s_Hmac_7 st) <| .fail
theorem lp_s_Hmac_7 : ∀ d, bod ⟨lookT tys, ctrOf C_s_Hmac, kindOf C_s_Hmac, 3, 4⟩ 0 Try.f172.ntmps Q_s_Hmac (nthLoop Try.f172 0) K_s_Hmac_7 8000000 X_s_Hmac_7 d = B_s_Hmac_7 d := fun d => by kernel_rfl
theorem lo_s_Hmac_7 (cx : Cx) (hp : cx.pin.length ≤ 0) : LoopOk Try.prog cx Try.f172.ntmps Q_s_Hmac (nthLoop Try.f172 0) := loop_of (cfgOk_of mixed tys_ok (show FnsOk Try.prog C_s_Hmac from ⟨fn_s_BlockKey, fn_s_Sha, trivial⟩)) hp (all_of (by kernel_rfl : loopsOf (nthLoop Try.f172 0) = []) trivial) (by kernel_rfl) lp_s_Hmac_7
theorem e_s_Hmac : ∀ d, pcall ⟨lookT tys, ctrOf C_s_Hmac, kindOf C_s_Hmac, 3, 4⟩ 0 Q_s_Hmac Try.f172 .plain (mkA P_s_Hmac d) = (T_s_Hmac d.1 d.2.1).run fun r => some (O_s_Hmac r) := fun d => by kernel_rfl
theorem fn_s_Hmac : Fn Try.prog 172 .plain F_s_Hmac := fn_of (cfgOk_of mixed tys_ok (show FnsOk Try.prog C_s_Hmac from ⟨fn_s_BlockKey, fn_s_Sha, trivial⟩)) Try.func172 (by kernel_rfl) (by kernel_rfl) (fun cx b hp hb => all_of (by kernel_rfl : loopsOf (Try.f172.body.getD .skip) = [nthLoop Try.f172 0]) ⟨lo_s_Hmac_7 cx hp, trivial⟩ b hb) (R := (YBs)) (T := fun (d : aden P_s_Hmac) => T_s_Hmac d.1 d.2.1) e_s_Hmac
def P_s_BlockOf : List (Bool × List Sh) := [(false, [.sl 5 [.int .u8]]), (false, [.sl 5 [.int .u8]]), (false, [.int .i64])]
def O_s_BlockOf (r : (YBs)) : List RV × List RV := ([rv (false, [.sl 5 [.int .u8]]) r], [])
def C_s_BlockOf : Fns := [(83, .plain, F_s_l1In), (116, .plain, F_s_PutN), (172, .plain, F_s_Hmac)]
def F_s_BlockOf : Fun1 := funV P_s_BlockOf (fun d => (T_s_BlockOf d.1 d.2.1 d.2.2.1).val) O_s_BlockOf
def Q_s_BlockOf : Loops := fun _ _ => .fail
theorem e_s_BlockOf : ∀ d, pcall ⟨lookT tys, ctrOf C_s_BlockOf, kindOf C_s_BlockOf, 3, 4⟩ 0 Q_s_BlockOf Try.f181 .plain (mkA P_s_BlockOf d) = (T_s_BlockOf d.1 d.2.1 d.2.2.1).run fun r => some (O_s_BlockOf r) := fun d => by kernel_rfl
theorem fn_s_BlockOf : Fn Try.prog 181 .plain F_s_BlockOf := fn_of (cfgOk_of mixed tys_ok (show FnsOk Try.prog C_s_BlockOf from ⟨fn_s_l1In, fn_s_PutN, fn_s_Hmac, trivial⟩)) Try.func181 (by kernel_rfl) (by kernel_rfl) (fun cx b hp hb => all_of (by kernel_rfl : loopsOf (Try.f181.body.getD .skip) = []) trivial b hb) (R := (YBs)) (T := fun (d : aden P_s_BlockOf) => T_s_BlockOf d.1 d.2.1 d.2.2.1) e_s_BlockOf
def P_s_Stream : List (Bool × List Sh) := [(false, [.sl 5 [.int .u8]]), (false, [.sl 5 [.int .u8]]), (false, [.int .i64])]
def O_s_Stream (r : (YBs)) : List RV × List RV := ([rv (false, [.sl 5 [.int .u8]]) r], [])
def C_s_Stream : Fns := [(83, .plain, F_s_l1In), (181, .plain, F_s_BlockOf)]
def F_s_Stream : Fun1 := funV P_s_Stream (fun d => (T_s_Stream d.1 d.2.1 d.2.2.1).val) O_s_Stream
def K_s_Stream_5 : Sk := ⟨[(0, .v false [(.sl 5 [.int .u8], .ro)]), (1, .v false [(.sl 5 [.int .u8], .ro)]), (2, .v false [(.int .i64, .nil)]), (7, .v false [(.sl 5 [.int .u8], (.own 6000000))]), (8, .v false [(.int .i64, .nil)])], [], [6000000]⟩
def X_s_Stream_5 : List (Ex × Sk) := [((.exit 0), ⟨[(2, .v false [(.int .i64, .nil)]), (7, .v false [(.sl 5 [.int .u8], (.own 6000000))])], [], [6000000]⟩)]
def Q_s_Stream : Loops := fun i st => cond (Nat.beq i 5) (lam K_s_Stream_5 6000000 X_s_Stream_5 B_s_Stream_5 st) <| .fail
theorem lp_s_Stream_5 : ∀ d, bod ⟨lookT tys, ctrOf C_s_Stream, kindOf C_s_Stream, 3, 4⟩ 0 Try.f171.ntmps Q_s_Stream (nthLoop Try.f171 0) K_s_Stream_5 6000000 X_s_Stream_5 d = B_s_Stream_5 d := fun d => by kernel_rfl
theorem lo_s_Stream_5 (cx : Cx) (hp : cx.pin.length ≤ 0) : LoopOk Try.prog cx Try.f171.ntmps Q_s_Stream (nthLoop Try.f171 0) := loop_of (cfgOk_of mixed tys_ok (show FnsOk Try.prog C_s_Stream from ⟨fn_s_l1In, fn_s_BlockOf, trivial⟩)) hp (all_of (by kernel_rfl : loopsOf (nthLoop Try.f171 0) = []) trivial) (by kernel_rfl) lp_s_Stream_5
theorem e_s_Stream : ∀ d, pcall ⟨lookT tys, ctrOf C_s_Stream, kindOf C_s_Stream, 3, 4⟩ 0 Q_s_Stream Try.f171 .plain (mkA P_s_Stream d) = (T_s_Stream d.1 d.2.1 d.2.2.1).run fun r => some (O_s_Stream r) := fun d => by kernel_rfl
theorem fn_s_Stream : Fn Try.prog 171 .plain F_s_Stream := fn_of (cfgOk_of mixed tys_ok (show FnsOk Try.prog C_s_Stream from ⟨fn_s_l1In, fn_s_BlockOf, trivial⟩)) Try.func171 (by kernel_rfl) (by kernel_rfl) (fun cx b hp hb => all_of (by kernel_rfl : loopsOf (Try.f171.body.getD .skip) = [nthLoop Try.f171 0]) ⟨lo_s_Stream_5 cx hp, trivial⟩ b hb) (R := (YBs)) (T := fun (d : aden P_s_Stream) => T_s_Stream d.1 d.2.1 d.2.2.1) e_s_Stream
def P_s_Mix : List (Bool × List Sh) := [(false, [.sl 5 [.int .u8]]), (false, [.sl 5 [.int .u8]]), (false, [.sl 5 [.int .u8]])]
def O_s_Mix (r : (YBs)) : List RV × List RV := ([rv (false, [.sl 5 [.int .u8]]) r], [])
def C_s_Mix : Fns := [(171, .plain, F_s_Stream)]
def F_s_Mix : Fun1 := funV P_s_Mix (fun d => (T_s_Mix d.1 d.2.1 d.2.2.1).val) O_s_Mix
def K_s_Mix_6 : Sk := ⟨[(2, .v false [(.sl 5 [.int .u8], .ro)]), (7, .v false [(.sl 5 [.int .u8], (.own 7000000))]), (8, .v false [(.sl 5 [.int .u8], (.own 7000001))]), (9, .v false [(.int .i64, .nil)])], [], [7000000, 7000001]⟩
def X_s_Mix_6 : List (Ex × Sk) := [((.exit 0), ⟨[(7, .v false [(.sl 5 [.int .u8], (.own 7000000))])], [], [7000000]⟩)]
def Q_s_Mix : Loops := fun i st => cond (Nat.beq i 6) (lam K_s_Mix_6 7000000 X_s_Mix_6 B_s_Mix_6 st) <| .fail
theorem lp_s_Mix_6 : ∀ d, bod ⟨lookT tys, ctrOf C_s_Mix, kindOf C_s_Mix, 3, 4⟩ 0 Try.f154.ntmps Q_s_Mix (nthLoop Try.f154 0) K_s_Mix_6 7000000 X_s_Mix_6 d = B_s_Mix_6 d := fun d => by kernel_rfl
theorem lo_s_Mix_6 (cx : Cx) (hp : cx.pin.length ≤ 0) : LoopOk Try.prog cx Try.f154.ntmps Q_s_Mix (nthLoop Try.f154 0) := loop_of (cfgOk_of mixed tys_ok (show FnsOk Try.prog C_s_Mix from ⟨fn_s_Stream, trivial⟩)) hp (all_of (by kernel_rfl : loopsOf (nthLoop Try.f154 0) = []) trivial) (by kernel_rfl) lp_s_Mix_6
theorem e_s_Mix : ∀ d, pcall ⟨lookT tys, ctrOf C_s_Mix, kindOf C_s_Mix, 3, 4⟩ 0 Q_s_Mix Try.f154 .plain (mkA P_s_Mix d) = (T_s_Mix d.1 d.2.1 d.2.2.1).run fun r => some (O_s_Mix r) := fun d => by kernel_rfl
theorem fn_s_Mix : Fn Try.prog 154 .plain F_s_Mix := fn_of (cfgOk_of mixed tys_ok (show FnsOk Try.prog C_s_Mix from ⟨fn_s_Stream, trivial⟩)) Try.func154 (by kernel_rfl) (by kernel_rfl) (fun cx b hp hb => all_of (by kernel_rfl : loopsOf (Try.f154.body.getD .skip) = [nthLoop Try.f154 0]) ⟨lo_s_Mix_6 cx hp, trivial⟩ b hb) (R := (YBs)) (T := fun (d : aden P_s_Mix) => T_s_Mix d.1 d.2.1 d.2.2.1) e_s_Mix
def P_s_FrameOk : List (Bool × List Sh) := [(true, h_9)]
def O_s_FrameOk (r : (Bool × Unit)) : List RV × List RV := ([rv (false, [.bool]) r], [])
def C_s_FrameOk : Fns := [(152, .plain, F_s_Sealed), (83, .plain, F_s_l1In), (153, .plain, F_s_l7Body)]
def F_s_FrameOk : Fun1 := funV P_s_FrameOk (fun d => (T_s_FrameOk d.1).val) O_s_FrameOk
def Q_s_FrameOk : Loops := fun _ _ => .fail
theorem e_s_FrameOk : ∀ d, pcall ⟨lookT tys, ctrOf C_s_FrameOk, kindOf C_s_FrameOk, 3, 4⟩ 0 Q_s_FrameOk Try.f126 .plain (mkA P_s_FrameOk d) = (T_s_FrameOk d.1).run fun r => some (O_s_FrameOk r) := fun d => by kernel_rfl
theorem fn_s_FrameOk : Fn Try.prog 126 .plain F_s_FrameOk := fn_of (cfgOk_of mixed tys_ok (show FnsOk Try.prog C_s_FrameOk from ⟨fn_s_Sealed, fn_s_l1In, fn_s_l7Body, trivial⟩)) Try.func126 (by kernel_rfl) (by kernel_rfl) (fun cx b hp hb => all_of (by kernel_rfl : loopsOf (Try.f126.body.getD .skip) = []) trivial b hb) (R := (Bool × Unit)) (T := fun (d : aden P_s_FrameOk) => T_s_FrameOk d.1) e_s_FrameOk
def P_s_TagInput : List (Bool × List Sh) := [(false, [.int .i64]), (true, h_9)]
def O_s_TagInput (r : (YBs)) : List RV × List RV := ([rv (false, [.sl 5 [.int .u8]]) r], [])
def C_s_TagInput : Fns := [(83, .plain, F_s_l1In), (126, .plain, F_s_FrameOk), (152, .plain, F_s_Sealed), (151, .plain, F_s_HeadOf)]
def F_s_TagInput : Fun1 := funV P_s_TagInput (fun d => (T_s_TagInput d.1 d.2.1).val) O_s_TagInput
def Q_s_TagInput : Loops := fun _ _ => .fail
theorem e_s_TagInput : ∀ d, pcall ⟨lookT tys, ctrOf C_s_TagInput, kindOf C_s_TagInput, 3, 4⟩ 0 Q_s_TagInput Try.f117 .plain (mkA P_s_TagInput d) = (T_s_TagInput d.1 d.2.1).run fun r => some (O_s_TagInput r) := fun d => by kernel_rfl
theorem fn_s_TagInput : Fn Try.prog 117 .plain F_s_TagInput := fn_of (cfgOk_of mixed tys_ok (show FnsOk Try.prog C_s_TagInput from ⟨fn_s_l1In, fn_s_FrameOk, fn_s_Sealed, fn_s_HeadOf, trivial⟩)) Try.func117 (by kernel_rfl) (by kernel_rfl) (fun cx b hp hb => all_of (by kernel_rfl : loopsOf (Try.f117.body.getD .skip) = []) trivial b hb) (R := (YBs)) (T := fun (d : aden P_s_TagInput) => T_s_TagInput d.1 d.2.1) e_s_TagInput
def P_s_Tag : List (Bool × List Sh) := [(false, [.sl 5 [.int .u8]]), (false, [.sl 5 [.int .u8]])]
def O_s_Tag (r : (YBs)) : List RV × List RV := ([rv (false, [.sl 5 [.int .u8]]) r], [])
def C_s_Tag : Fns := [(172, .plain, F_s_Hmac)]
def F_s_Tag : Fun1 := funV P_s_Tag (fun d => (T_s_Tag d.1 d.2.1).val) O_s_Tag
def Q_s_Tag : Loops := fun _ _ => .fail
theorem e_s_Tag : ∀ d, pcall ⟨lookT tys, ctrOf C_s_Tag, kindOf C_s_Tag, 3, 4⟩ 0 Q_s_Tag Try.f155 .plain (mkA P_s_Tag d) = (T_s_Tag d.1 d.2.1).run fun r => some (O_s_Tag r) := fun d => by kernel_rfl
theorem fn_s_Tag : Fn Try.prog 155 .plain F_s_Tag := fn_of (cfgOk_of mixed tys_ok (show FnsOk Try.prog C_s_Tag from ⟨fn_s_Hmac, trivial⟩)) Try.func155 (by kernel_rfl) (by kernel_rfl) (fun cx b hp hb => all_of (by kernel_rfl : loopsOf (Try.f155.body.getD .skip) = []) trivial b hb) (R := (YBs)) (T := fun (d : aden P_s_Tag) => T_s_Tag d.1 d.2.1) e_s_Tag
def P_s_Seal : List (Bool × List Sh) := [(false, [.sl 5 [.int .u8]]), (false, [.int .i64]), (false, [.sl 5 [.int .u8]]), (false, [.int .i64]), (false, [.int .i64]), (false, [.int .i64]), (false, [.sl 5 [.int .u8]])]
def O_s_Seal (r : (YFrame) × (Bool × Unit)) : List RV × List RV := ([rv (true, h_9) r.1, rv (false, [.bool]) r.2], [])
def C_s_Seal : Fns := [(151, .plain, F_s_HeadOf), (152, .plain, F_s_Sealed), (153, .plain, F_s_l7Body), (154, .plain, F_s_Mix), (117, .plain, F_s_TagInput), (155, .plain, F_s_Tag)]
def F_s_Seal : Fun1 := funV P_s_Seal (fun d => (T_s_Seal d.1 d.2.1 d.2.2.1 d.2.2.2.1 d.2.2.2.2.1 d.2.2.2.2.2.1 d.2.2.2.2.2.2.1).val) O_s_Seal
def K_s_Seal_6 : Sk := ⟨[(0, .v false [(.sl 5 [.int .u8], .ro)]), (1, .v false [(.int .i64, .nil)]), (14, .box 14 0), (17, .box 17 0), (18, .v false [(.int .i64, .nil)])], [(14, [(.int .i64, .nil), (.int .i64, .nil), (.sl 5 [.int .u8], (.own 7000000)), (.sl 5 [.int .u8], (.own 7000001)), (.int .i64, .nil), (.sl 5 [.int .u8], (.own 7000002)), (.sl 5 [.int .u8], (.own 7000003)), (.int .i64, .nil), (.int .i64, .nil), (.sl 5 [.int .u8], (.own 7000004)), (.sl 5 [.int .u8], (.own 7000005))]), (17, [(.int .i64, .nil), (.int .i64, .nil), (.sl 5 [.int .u8], (.own 7000006)), (.sl 5 [.int .u8], (.own 7000007)), (.int .i64, .nil), (.sl 5 [.int .u8], (.own 7000008)), (.sl 5 [.int .u8], (.own 7000009)), (.int .i64, .nil), (.int .i64, .nil), (.sl 5 [.int .u8], (.own 7000010)), (.sl 5 [.int .u8], (.own 7000011))])], [7000000, 7000001, 7000002, 7000003, 7000004, 7000005, 7000006, 7000007, 7000008, 7000009, 7000010, 7000011]⟩
def X_s_Seal_6 : List (Ex × Sk) := [((.exit 0), ⟨[(0, .v false [(.sl 5 [.int .u8], .ro)]), (1, .v false [(.int .i64, .nil)]), (14, .box 14 0), (17, .box 17 0)], [(14, [(.int .i64, .nil), (.int .i64, .nil), (.sl 5 [.int .u8], (.own 7000000)), (.sl 5 [.int .u8], (.own 7000001)), (.int .i64, .nil), (.sl 5 [.int .u8], (.own 7000002)), (.sl 5 [.int .u8], (.own 7000003)), (.int .i64, .nil), (.int .i64, .nil), (.sl 5 [.int .u8], (.own 7000004)), (.sl 5 [.int .u8], (.own 7000005))]), (17, [(.int .i64, .nil), (.int .i64, .nil), (.sl 5 [.int .u8], (.own 7000006)), (.sl 5 [.int .u8], (.own 7000007)), (.int .i64, .nil), (.sl 5 [.int .u8], (.own 7000008)), (.sl 5 [.int .u8], (.own 7000009)), (.int .i64, .nil), (.int .i64, .nil), (.sl 5 [.int .u8], (.own 7000010)), (.sl 5 [.int .u8], (.own 7000011))])], [7000000, 7000001, 7000002, 7000003, 7000004, 7000005, 7000006, 7000007, 7000008, 7000009, 7000010, 7000011]⟩)]
def Q_s_Seal : Loops := fun i st => cond (Nat.beq i 6) (lam K_s_Seal_6 7000000 X_s_Seal_6 B_s_Seal_6 st) <| .fail
theorem lp_s_Seal_6 : ∀ d, bod ⟨lookT tys, ctrOf C_s_Seal, kindOf C_s_Seal, 3, 4⟩ 0 Try.f115.ntmps Q_s_Seal (nthLoop Try.f115 0) K_s_Seal_6 7000000 X_s_Seal_6 d = B_s_Seal_6 d := fun d => by kernel_rfl
theorem lo_s_Seal_6 (cx : Cx) (hp : cx.pin.length ≤ 0) : LoopOk Try.prog cx Try.f115.ntmps Q_s_Seal (nthLoop Try.f115 0) := loop_of (cfgOk_of mixed tys_ok (show FnsOk Try.prog C_s_Seal from ⟨fn_s_HeadOf, fn_s_Sealed, fn_s_l7Body, fn_s_Mix, fn_s_TagInput, fn_s_Tag, trivial⟩)) hp (all_of (by kernel_rfl : loopsOf (nthLoop Try.f115 0) = []) trivial) (by kernel_rfl) lp_s_Seal_6
theorem e_s_Seal : ∀ d, pcall ⟨lookT tys, ctrOf C_s_Seal, kindOf C_s_Seal, 3, 4⟩ 0 Q_s_Seal Try.f115 .plain (mkA P_s_Seal d) = (T_s_Seal d.1 d.2.1 d.2.2.1 d.2.2.2.1 d.2.2.2.2.1 d.2.2.2.2.2.1 d.2.2.2.2.2.2.1).run fun r => some (O_s_Seal r) := fun d => by kernel_rfl
theorem fn_s_Seal : Fn Try.prog 115 .plain F_s_Seal := fn_of (cfgOk_of mixed tys_ok (show FnsOk Try.prog C_s_Seal from ⟨fn_s_HeadOf, fn_s_Sealed, fn_s_l7Body, fn_s_Mix, fn_s_TagInput, fn_s_Tag, trivial⟩)) Try.func115 (by kernel_rfl) (by kernel_rfl) (fun cx b hp hb => all_of (by kernel_rfl : loopsOf (Try.f115.body.getD .skip) = [nthLoop Try.f115 0]) ⟨lo_s_Seal_6 cx hp, trivial⟩ b hb) (R := (YFrame) × (Bool × Unit)) (T := fun (d : aden P_s_Seal) => T_s_Seal d.1 d.2.1 d.2.2.1 d.2.2.2.1 d.2.2.2.2.1 d.2.2.2.2.2.1 d.2.2.2.2.2.2.1) e_s_Seal
def P_s_Forge : List (Bool × List Sh) := [(false, [.sl 5 [.int .u8]]), (false, [.int .i64]), (false, [.int .i64]), (false, [.sl 5 [.int .u8]]), (false, [.int .i64]), (false, [.int .i64]), (false, [.int .i64]), (false, [.sl 5 [.int .u8]])]
def O_s_Forge (r : ((List YOp) × Unit)) : List RV × List RV := ([rv (false, [.sl 163 h_3]) r], [])
def C_s_Forge : Fns := [(115, .plain, F_s_Seal), (83, .plain, F_s_l1In), (116, .plain, F_s_PutN), (117, .plain, F_s_TagInput)]
def F_s_Forge : Fun1 := funV P_s_Forge (fun d => (T_s_Forge d.1 d.2.1 d.2.2.1 d.2.2.2.1 d.2.2.2.2.1 d.2.2.2.2.2.1 d.2.2.2.2.2.2.1 d.2.2.2.2.2.2.2.1).val) O_s_Forge
def Q_s_Forge : Loops := fun _ _ => .fail
theorem e_s_Forge : ∀ d, pcall ⟨lookT tys, ctrOf C_s_Forge, kindOf C_s_Forge, 3, 4⟩ 0 Q_s_Forge Try.f62 .plain (mkA P_s_Forge d) = (T_s_Forge d.1 d.2.1 d.2.2.1 d.2.2.2.1 d.2.2.2.2.1 d.2.2.2.2.2.1 d.2.2.2.2.2.2.1 d.2.2.2.2.2.2.2.1).run fun r => some (O_s_Forge r) := fun d => by kernel_rfl
theorem fn_s_Forge : Fn Try.prog 62 .plain F_s_Forge := fn_of (cfgOk_of mixed tys_ok (show FnsOk Try.prog C_s_Forge from ⟨fn_s_Seal, fn_s_l1In, fn_s_PutN, fn_s_TagInput, trivial⟩)) Try.func62 (by kernel_rfl) (by kernel_rfl) (fun cx b hp hb => all_of (by kernel_rfl : loopsOf (Try.f62.body.getD .skip) = []) trivial b hb) (R := ((List YOp) × Unit)) (T := fun (d : aden P_s_Forge) => T_s_Forge d.1 d.2.1 d.2.2.1 d.2.2.2.1 d.2.2.2.2.1 d.2.2.2.2.2.1 d.2.2.2.2.2.2.1 d.2.2.2.2.2.2.2.1) e_s_Forge
def P_i_clone : List (Bool × List Sh) := [(false, [.sl 5 [.int .u8]])]
def O_i_clone (r : (YBs)) : List RV × List RV := ([rv (false, [.sl 5 [.int .u8]]) r], [])
def C_i_clone : Fns := []
def F_i_clone : Fun1 := funV P_i_clone (fun d => (T_i_clone d.1).val) O_i_clone
def Q_i_clone : Loops := fun _ _ => .fail
theorem e_i_clone : ∀ d, pcall ⟨lookT tys, ctrOf C_i_clone, kindOf C_i_clone, 3, 4⟩ 0 Q_i_clone Try.f123 .plain (mkA P_i_clone d) = (T_i_clone d.1).run fun r => some (O_i_clone r) := fun d => by kernel_rfl
theorem fn_i_clone : Fn Try.prog 123 .plain F_i_clone := fn_of (cfgOk_of mixed tys_ok (show FnsOk Try.prog C_i_clone from trivial)) Try.func123 (by kernel_rfl) (by kernel_rfl) (fun cx b hp hb => all_of (by kernel_rfl : loopsOf (Try.f123.body.getD .skip) = []) trivial b hb) (R := (YBs)) (T := fun (d : aden P_i_clone) => T_i_clone d.1) e_i_clone
def P_i_isRole : List (Bool × List Sh) := [(false, [.int .i64])]
def O_i_isRole (r : (Bool × Unit)) : List RV × List RV := ([rv (false, [.bool]) r], [])
def C_i_isRole : Fns := []
def F_i_isRole : Fun1 := funV P_i_isRole (fun d => (T_i_isRole d.1).val) O_i_isRole
def Q_i_isRole : Loops := fun _ _ => .fail
theorem e_i_isRole : ∀ d, pcall ⟨lookT tys, ctrOf C_i_isRole, kindOf C_i_isRole, 3, 4⟩ 0 Q_i_isRole Try.f139 .plain (mkA P_i_isRole d) = (T_i_isRole d.1).run fun r => some (O_i_isRole r) := fun d => by kernel_rfl
theorem fn_i_isRole : Fn Try.prog 139 .plain F_i_isRole := fn_of (cfgOk_of mixed tys_ok (show FnsOk Try.prog C_i_isRole from trivial)) Try.func139 (by kernel_rfl) (by kernel_rfl) (fun cx b hp hb => all_of (by kernel_rfl : loopsOf (Try.f139.body.getD .skip) = []) trivial b hb) (R := (Bool × Unit)) (T := fun (d : aden P_i_isRole) => T_i_isRole d.1) e_i_isRole
def P_i_within : List (Bool × List Sh) := [(false, [.int .i64]), (false, [.int .i64]), (false, [.int .i64])]
def O_i_within (r : (Bool × Unit)) : List RV × List RV := ([rv (false, [.bool]) r], [])
def C_i_within : Fns := []
def F_i_within : Fun1 := funV P_i_within (fun d => (T_i_within d.1 d.2.1 d.2.2.1).val) O_i_within
def Q_i_within : Loops := fun _ _ => .fail
theorem e_i_within : ∀ d, pcall ⟨lookT tys, ctrOf C_i_within, kindOf C_i_within, 3, 4⟩ 0 Q_i_within Try.f84 .plain (mkA P_i_within d) = (T_i_within d.1 d.2.1 d.2.2.1).run fun r => some (O_i_within r) := fun d => by kernel_rfl
theorem fn_i_within : Fn Try.prog 84 .plain F_i_within := fn_of (cfgOk_of mixed tys_ok (show FnsOk Try.prog C_i_within from trivial)) Try.func84 (by kernel_rfl) (by kernel_rfl) (fun cx b hp hb => all_of (by kernel_rfl : loopsOf (Try.f84.body.getD .skip) = []) trivial b hb) (R := (Bool × Unit)) (T := fun (d : aden P_i_within) => T_i_within d.1 d.2.1 d.2.2.1) e_i_within
def P_i_Sealed : List (Bool × List Sh) := [(false, [.int .i64])]
def O_i_Sealed (r : (Bool × Unit)) : List RV × List RV := ([rv (false, [.bool]) r], [])
def C_i_Sealed : Fns := [(84, .plain, F_i_within)]
def F_i_Sealed : Fun1 := funV P_i_Sealed (fun d => (T_i_Sealed d.1).val) O_i_Sealed
def Q_i_Sealed : Loops := fun _ _ => .fail
theorem e_i_Sealed : ∀ d, pcall ⟨lookT tys, ctrOf C_i_Sealed, kindOf C_i_Sealed, 3, 4⟩ 0 Q_i_Sealed Try.f156 .plain (mkA P_i_Sealed d) = (T_i_Sealed d.1).run fun r => some (O_i_Sealed r) := fun d => by kernel_rfl
theorem fn_i_Sealed : Fn Try.prog 156 .plain F_i_Sealed := fn_of (cfgOk_of mixed tys_ok (show FnsOk Try.prog C_i_Sealed from ⟨fn_i_within, trivial⟩)) Try.func156 (by kernel_rfl) (by kernel_rfl) (fun cx b hp hb => all_of (by kernel_rfl : loopsOf (Try.f156.body.getD .skip) = []) trivial b hb) (R := (Bool × Unit)) (T := fun (d : aden P_i_Sealed) => T_i_Sealed d.1) e_i_Sealed
def P_i_isNonce : List (Bool × List Sh) := [(false, [.sl 5 [.int .u8]])]
def O_i_isNonce (r : (Bool × Unit)) : List RV × List RV := ([rv (false, [.bool]) r], [])
def C_i_isNonce : Fns := []
def F_i_isNonce : Fun1 := funV P_i_isNonce (fun d => (T_i_isNonce d.1).val) O_i_isNonce
def Q_i_isNonce : Loops := fun _ _ => .fail
theorem e_i_isNonce : ∀ d, pcall ⟨lookT tys, ctrOf C_i_isNonce, kindOf C_i_isNonce, 3, 4⟩ 0 Q_i_isNonce Try.f95 .plain (mkA P_i_isNonce d) = (T_i_isNonce d.1).run fun r => some (O_i_isNonce r) := fun d => by kernel_rfl
theorem fn_i_isNonce : Fn Try.prog 95 .plain F_i_isNonce := fn_of (cfgOk_of mixed tys_ok (show FnsOk Try.prog C_i_isNonce from trivial)) Try.func95 (by kernel_rfl) (by kernel_rfl) (fun cx b hp hb => all_of (by kernel_rfl : loopsOf (Try.f95.body.getD .skip) = []) trivial b hb) (R := (Bool × Unit)) (T := fun (d : aden P_i_isNonce) => T_i_isNonce d.1) e_i_isNonce
def P_i_bodyOk : List (Bool × List Sh) := [(false, [.int .i64]), (false, [.int .i64])]
def O_i_bodyOk (r : (Bool × Unit)) : List RV × List RV := ([rv (false, [.bool]) r], [])
def C_i_bodyOk : Fns := []
def F_i_bodyOk : Fun1 := funV P_i_bodyOk (fun d => (T_i_bodyOk d.1 d.2.1).val) O_i_bodyOk
def Q_i_bodyOk : Loops := fun _ _ => .fail
theorem e_i_bodyOk : ∀ d, pcall ⟨lookT tys, ctrOf C_i_bodyOk, kindOf C_i_bodyOk, 3, 4⟩ 0 Q_i_bodyOk Try.f160 .plain (mkA P_i_bodyOk d) = (T_i_bodyOk d.1 d.2.1).run fun r => some (O_i_bodyOk r) := fun d => by kernel_rfl
theorem fn_i_bodyOk : Fn Try.prog 160 .plain F_i_bodyOk := fn_of (cfgOk_of mixed tys_ok (show FnsOk Try.prog C_i_bodyOk from trivial)) Try.func160 (by kernel_rfl) (by kernel_rfl) (fun cx b hp hb => all_of (by kernel_rfl : loopsOf (Try.f160.body.getD .skip) = []) trivial b hb) (R := (Bool × Unit)) (T := fun (d : aden P_i_bodyOk) => T_i_bodyOk d.1 d.2.1) e_i_bodyOk
def P_bytes_Equal : List (Bool × List Sh) := [(false, [.sl 5 [.int .u8]]), (false, [.sl 5 [.int .u8]])]
def O_bytes_Equal (r : (Bool × Unit)) : List RV × List RV := ([rv (false, [.bool]) r], [])
def C_bytes_Equal : Fns := []
def F_bytes_Equal : Fun1 := funV P_bytes_Equal (fun d => (T_bytes_Equal d.1 d.2.1).val) O_bytes_Equal
def Q_bytes_Equal : Loops := fun _ _ => .fail
theorem e_bytes_Equal : ∀ d, pcall ⟨lookT tys, ctrOf C_bytes_Equal, kindOf C_bytes_Equal, 3, 4⟩ 0 Q_bytes_Equal Try.f82 .plain (mkA P_bytes_Equal d) = (T_bytes_Equal d.1 d.2.1).run fun r => some (O_bytes_Equal r) := fun d => by kernel_rfl
theorem fn_bytes_Equal : Fn Try.prog 82 .plain F_bytes_Equal := fn_of (cfgOk_of mixed tys_ok (show FnsOk Try.prog C_bytes_Equal from trivial)) Try.func82 (by kernel_rfl) (by kernel_rfl) (fun cx b hp hb => all_of (by kernel_rfl : loopsOf (Try.f82.body.getD .skip) = []) trivial b hb) (R := (Bool × Unit)) (T := fun (d : aden P_bytes_Equal) => T_bytes_Equal d.1 d.2.1) e_bytes_Equal
def P_i_sameFrame : List (Bool × List Sh) := [(true, h_9), (true, h_9)]
def O_i_sameFrame (r : (Bool × Unit)) : List RV × List RV := ([rv (false, [.bool]) r], [])
def C_i_sameFrame : Fns := [(82, .plain, F_bytes_Equal)]
def F_i_sameFrame : Fun1 := funV P_i_sameFrame (fun d => (T_i_sameFrame d.1 d.2.1).val) O_i_sameFrame
def Q_i_sameFrame : Loops := fun _ _ => .fail
theorem e_i_sameFrame : ∀ d, pcall ⟨lookT tys, ctrOf C_i_sameFrame, kindOf C_i_sameFrame, 3, 4⟩ 0 Q_i_sameFrame Try.f161 .plain (mkA P_i_sameFrame d) = (T_i_sameFrame d.1 d.2.1).run fun r => some (O_i_sameFrame r) := fun d => by kernel_rfl
theorem fn_i_sameFrame : Fn Try.prog 161 .plain F_i_sameFrame := fn_of (cfgOk_of mixed tys_ok (show FnsOk Try.prog C_i_sameFrame from ⟨fn_bytes_Equal, trivial⟩)) Try.func161 (by kernel_rfl) (by kernel_rfl) (fun cx b hp hb => all_of (by kernel_rfl : loopsOf (Try.f161.body.getD .skip) = []) trivial b hb) (R := (Bool × Unit)) (T := fun (d : aden P_i_sameFrame) => T_i_sameFrame d.1 d.2.1) e_i_sameFrame
def P_i_FrameOk : List (Bool × List Sh) := [(true, h_9)]
def O_i_FrameOk (r : (Bool × Unit)) : List RV × List RV := ([rv (false, [.bool]) r], [])
def C_i_FrameOk : Fns := [(84, .plain, F_i_within), (95, .plain, F_i_isNonce), (156, .plain, F_i_Sealed), (160, .plain, F_i_bodyOk), (161, .plain, F_i_sameFrame)]
def F_i_FrameOk : Fun1 := funV P_i_FrameOk (fun d => (T_i_FrameOk d.1).val) O_i_FrameOk
def Q_i_FrameOk : Loops := fun _ _ => .fail
theorem e_i_FrameOk : ∀ d, pcall ⟨lookT tys, ctrOf C_i_FrameOk, kindOf C_i_FrameOk, 3, 4⟩ 0 Q_i_FrameOk Try.f127 .plain (mkA P_i_FrameOk d) = (T_i_FrameOk d.1).run fun r => some (O_i_FrameOk r) := fun d => by kernel_rfl
theorem fn_i_FrameOk : Fn Try.prog 127 .plain F_i_FrameOk := fn_of (cfgOk_of mixed tys_ok (show FnsOk Try.prog C_i_FrameOk from ⟨fn_i_within, fn_i_isNonce, fn_i_Sealed, fn_i_bodyOk, fn_i_sameFrame, trivial⟩)) Try.func127 (by kernel_rfl) (by kernel_rfl) (fun cx b hp hb => all_of (by kernel_rfl : loopsOf (Try.f127.body.getD .skip) = []) trivial b hb) (R := (Bool × Unit)) (T := fun (d : aden P_i_FrameOk) => T_i_FrameOk d.1) e_i_FrameOk
def P_i_PutN : List (Bool × List Sh) := [(false, [.sl 5 [.int .u8]]), (false, [.int .i64]), (false, [.int .i64])]
def O_i_PutN (r : (YBs)) : List RV × List RV := ([rv (false, [.sl 5 [.int .u8]]) r], [])
def C_i_PutN : Fns := []
def F_i_PutN : Fun1 := funV P_i_PutN (fun d => (T_i_PutN d.1 d.2.1 d.2.2.1).val) O_i_PutN
def K_i_PutN_5 : Sk := ⟨[(1, .v false [(.int .i64, .nil)]), (7, .v false [(.sl 5 [.int .u8], (.own 6000000))]), (8, .v false [(.int .i64, .nil)])], [], [6000000]⟩
def X_i_PutN_5 : List (Ex × Sk) := [((.exit 0), ⟨[(7, .v false [(.sl 5 [.int .u8], (.own 6000000))])], [], [6000000]⟩)]
def Q_i_PutN : Loops := fun i st => cond (Nat.beq i 5) (lam K_i_PutN_5 6000000 X_i_PutN_5 B_i_PutN_5 st) <| .fail
theorem lp_i_PutN_5 : ∀ d, bod ⟨lookT tys, ctrOf C_i_PutN, kindOf C_i_PutN, 3, 4⟩ 0 Try.f120.ntmps Q_i_PutN (nthLoop Try.f120 0) K_i_PutN_5 6000000 X_i_PutN_5 d = B_i_PutN_5 d := fun d => by kernel_rfl
theorem lo_i_PutN_5 (cx : Cx) (hp : cx.pin.length ≤ 0) : LoopOk Try.prog cx Try.f120.ntmps Q_i_PutN (nthLoop Try.f120 0) := loop_of (cfgOk_of mixed tys_ok (show FnsOk Try.prog C_i_PutN from trivial)) hp (all_of (by kernel_rfl : loopsOf (nthLoop Try.f120 0) = []) trivial) (by kernel_rfl) lp_i_PutN_5
theorem e_i_PutN : ∀ d, pcall ⟨lookT tys, ctrOf C_i_PutN, kindOf C_i_PutN, 3, 4⟩ 0 Q_i_PutN Try.f120 .plain (mkA P_i_PutN d) = (T_i_PutN d.1 d.2.1 d.2.2.1).run fun r => some (O_i_PutN r) := fun d => by kernel_rfl
theorem fn_i_PutN : Fn Try.prog 120 .plain F_i_PutN := fn_of (cfgOk_of mixed tys_ok (show FnsOk Try.prog C_i_PutN from trivial)) Try.func120 (by kernel_rfl) (by kernel_rfl) (fun cx b hp hb => all_of (by kernel_rfl : loopsOf (Try.f120.body.getD .skip) = [nthLoop Try.f120 0]) ⟨lo_i_PutN_5 cx hp, trivial⟩ b hb) (R := (YBs)) (T := fun (d : aden P_i_PutN) => T_i_PutN d.1 d.2.1 d.2.2.1) e_i_PutN
def P_i_joined : List (Bool × List Sh) := [(false, [.sl 34 [.sl 5 [.int .u8]]])]
def O_i_joined (r : (YBs)) : List RV × List RV := ([rv (false, [.sl 5 [.int .u8]]) r], [])
def C_i_joined : Fns := []
def F_i_joined : Fun1 := funV P_i_joined (fun d => (T_i_joined d.1).val) O_i_joined
def K_i_joined_3 : Sk := ⟨[(3, .v false [(.sl 5 [.int .u8], (.own 4000000))]), (7, .v false [(.sl 34 [.sl 5 [.int .u8]], .ro)]), (8, .v false [(.int .i64, .nil)]), (9, .v false [(.int .i64, .nil)])], [], [4000000]⟩
def X_i_joined_3 : List (Ex × Sk) := [((.exit 0), ⟨[(3, .v false [(.sl 5 [.int .u8], (.own 4000000))])], [], [4000000]⟩)]
def Q_i_joined : Loops := fun i st => cond (Nat.beq i 3) (lam K_i_joined_3 4000000 X_i_joined_3 B_i_joined_3 st) <| .fail
theorem lp_i_joined_3 : ∀ d, bod ⟨lookT tys, ctrOf C_i_joined, kindOf C_i_joined, 3, 4⟩ 0 Try.f119.ntmps Q_i_joined (nthLoop Try.f119 0) K_i_joined_3 4000000 X_i_joined_3 d = B_i_joined_3 d := fun d => by kernel_rfl
theorem lo_i_joined_3 (cx : Cx) (hp : cx.pin.length ≤ 0) : LoopOk Try.prog cx Try.f119.ntmps Q_i_joined (nthLoop Try.f119 0) := loop_of (cfgOk_of mixed tys_ok (show FnsOk Try.prog C_i_joined from trivial)) hp (all_of (by kernel_rfl : loopsOf (nthLoop Try.f119 0) = []) trivial) (by kernel_rfl) lp_i_joined_3
theorem e_i_joined : ∀ d, pcall ⟨lookT tys, ctrOf C_i_joined, kindOf C_i_joined, 3, 4⟩ 0 Q_i_joined Try.f119 .plain (mkA P_i_joined d) = (T_i_joined d.1).run fun r => some (O_i_joined r) := fun d => by kernel_rfl
theorem fn_i_joined : Fn Try.prog 119 .plain F_i_joined := fn_of (cfgOk_of mixed tys_ok (show FnsOk Try.prog C_i_joined from trivial)) Try.func119 (by kernel_rfl) (by kernel_rfl) (fun cx b hp hb => all_of (by kernel_rfl : loopsOf (Try.f119.body.getD .skip) = [nthLoop Try.f119 0]) ⟨lo_i_joined_3 cx hp, trivial⟩ b hb) (R := (YBs)) (T := fun (d : aden P_i_joined) => T_i_joined d.1) e_i_joined
def P_i_HeadOf : List (Bool × List Sh) := [(false, [.int .i64]), (false, [.sl 5 [.int .u8]]), (false, [.int .i64]), (false, [.int .i64])]
def O_i_HeadOf (r : (YBs)) : List RV × List RV := ([rv (false, [.sl 5 [.int .u8]]) r], [])
def C_i_HeadOf : Fns := [(139, .plain, F_i_isRole), (95, .plain, F_i_isNonce), (84, .plain, F_i_within), (120, .plain, F_i_PutN), (119, .plain, F_i_joined)]
def F_i_HeadOf : Fun1 := funV P_i_HeadOf (fun d => (T_i_HeadOf d.1 d.2.1 d.2.2.1 d.2.2.2.1).val) O_i_HeadOf
def Q_i_HeadOf : Loops := fun _ _ => .fail
theorem e_i_HeadOf : ∀ d, pcall ⟨lookT tys, ctrOf C_i_HeadOf, kindOf C_i_HeadOf, 3, 4⟩ 0 Q_i_HeadOf Try.f158 .plain (mkA P_i_HeadOf d) = (T_i_HeadOf d.1 d.2.1 d.2.2.1 d.2.2.2.1).run fun r => some (O_i_HeadOf r) := fun d => by kernel_rfl
theorem fn_i_HeadOf : Fn Try.prog 158 .plain F_i_HeadOf := fn_of (cfgOk_of mixed tys_ok (show FnsOk Try.prog C_i_HeadOf from ⟨fn_i_isRole, fn_i_isNonce, fn_i_within, fn_i_PutN, fn_i_joined, trivial⟩)) Try.func158 (by kernel_rfl) (by kernel_rfl) (fun cx b hp hb => all_of (by kernel_rfl : loopsOf (Try.f158.body.getD .skip) = []) trivial b hb) (R := (YBs)) (T := fun (d : aden P_i_HeadOf) => T_i_HeadOf d.1 d.2.1 d.2.2.1 d.2.2.2.1) e_i_HeadOf
def P_i_Start : List (Bool × List Sh) := []
def O_i_Start (r : ((List YI) × Unit)) : List RV × List RV := ([rv (false, [.sl 3 [.int .i64]]) r], [])
def C_i_Start : Fns := []
def F_i_Start : Fun1 := funV P_i_Start (fun d => (T_i_Start ).val) O_i_Start
def Q_i_Start : Loops := fun _ _ => .fail
theorem e_i_Start : ∀ d, pcall ⟨lookT tys, ctrOf C_i_Start, kindOf C_i_Start, 3, 4⟩ 0 Q_i_Start Try.f203 .plain (mkA P_i_Start d) = (T_i_Start ).run fun r => some (O_i_Start r) := fun d => by kernel_rfl
theorem fn_i_Start : Fn Try.prog 203 .plain F_i_Start := fn_of (cfgOk_of mixed tys_ok (show FnsOk Try.prog C_i_Start from trivial)) Try.func203 (by kernel_rfl) (by kernel_rfl) (fun cx b hp hb => all_of (by kernel_rfl : loopsOf (Try.f203.body.getD .skip) = []) trivial b hb) (R := ((List YI) × Unit)) (T := fun (d : aden P_i_Start) => T_i_Start ) e_i_Start
def P_i_HashNew : List (Bool × List Sh) := []
def O_i_HashNew (r : (YHash)) : List RV × List RV := ([rv (true, h_2) r], [])
def C_i_HashNew : Fns := [(203, .plain, F_i_Start)]
def F_i_HashNew : Fun1 := funV P_i_HashNew (fun d => (T_i_HashNew ).val) O_i_HashNew
def Q_i_HashNew : Loops := fun _ _ => .fail
theorem e_i_HashNew : ∀ d, pcall ⟨lookT tys, ctrOf C_i_HashNew, kindOf C_i_HashNew, 3, 4⟩ 0 Q_i_HashNew Try.f194 .plain (mkA P_i_HashNew d) = (T_i_HashNew ).run fun r => some (O_i_HashNew r) := fun d => by kernel_rfl
theorem fn_i_HashNew : Fn Try.prog 194 .plain F_i_HashNew := fn_of (cfgOk_of mixed tys_ok (show FnsOk Try.prog C_i_HashNew from ⟨fn_i_Start, trivial⟩)) Try.func194 (by kernel_rfl) (by kernel_rfl) (fun cx b hp hb => all_of (by kernel_rfl : loopsOf (Try.f194.body.getD .skip) = []) trivial b hb) (R := (YHash)) (T := fun (d : aden P_i_HashNew) => T_i_HashNew ) e_i_HashNew
def P_i_areWords : List (Bool × List Sh) := [(false, [.sl 3 [.int .i64]]), (false, [.int .i64])]
def O_i_areWords (r : (Bool × Unit)) : List RV × List RV := ([rv (false, [.bool]) r], [])
def C_i_areWords : Fns := [(84, .plain, F_i_within)]
def F_i_areWords : Fun1 := funV P_i_areWords (fun d => (T_i_areWords d.1 d.2.1).val) O_i_areWords
def K_i_areWords_2 : Sk := ⟨[(0, .v false [(.sl 3 [.int .i64], .ro)]), (1, .v false [(.int .i64, .nil)]), (7, .v false [(.sl 3 [.int .i64], .ro)]), (8, .v false [(.int .i64, .nil)]), (9, .v false [(.int .i64, .nil)])], [], []⟩
def X_i_areWords_2 : List (Ex × Sk) := [(.ret, ⟨[(4, .v false [(.bool, .nil)])], [], []⟩), ((.exit 0), ⟨[(0, .v false [(.sl 3 [.int .i64], .ro)]), (1, .v false [(.int .i64, .nil)])], [], []⟩)]
def Q_i_areWords : Loops := fun i st => cond (Nat.beq i 2) (lam K_i_areWords_2 3000000 X_i_areWords_2 B_i_areWords_2 st) <| .fail
theorem lp_i_areWords_2 : ∀ d, bod ⟨lookT tys, ctrOf C_i_areWords, kindOf C_i_areWords, 3, 4⟩ 0 Try.f178.ntmps Q_i_areWords (nthLoop Try.f178 0) K_i_areWords_2 3000000 X_i_areWords_2 d = B_i_areWords_2 d := fun d => by kernel_rfl
theorem lo_i_areWords_2 (cx : Cx) (hp : cx.pin.length ≤ 0) : LoopOk Try.prog cx Try.f178.ntmps Q_i_areWords (nthLoop Try.f178 0) := loop_of (cfgOk_of mixed tys_ok (show FnsOk Try.prog C_i_areWords from ⟨fn_i_within, trivial⟩)) hp (all_of (by kernel_rfl : loopsOf (nthLoop Try.f178 0) = []) trivial) (by kernel_rfl) lp_i_areWords_2
theorem e_i_areWords : ∀ d, pcall ⟨lookT tys, ctrOf C_i_areWords, kindOf C_i_areWords, 3, 4⟩ 0 Q_i_areWords Try.f178 .plain (mkA P_i_areWords d) = (T_i_areWords d.1 d.2.1).run fun r => some (O_i_areWords r) := fun d => by kernel_rfl
theorem fn_i_areWords : Fn Try.prog 178 .plain F_i_areWords := fn_of (cfgOk_of mixed tys_ok (show FnsOk Try.prog C_i_areWords from ⟨fn_i_within, trivial⟩)) Try.func178 (by kernel_rfl) (by kernel_rfl) (fun cx b hp hb => all_of (by kernel_rfl : loopsOf (Try.f178.body.getD .skip) = [nthLoop Try.f178 0]) ⟨lo_i_areWords_2 cx hp, trivial⟩ b hb) (R := (Bool × Unit)) (T := fun (d : aden P_i_areWords) => T_i_areWords d.1 d.2.1) e_i_areWords
def P_i_HashOk : List (Bool × List Sh) := [(true, h_2)]
def O_i_HashOk (r : (Bool × Unit)) : List RV × List RV := ([rv (false, [.bool]) r], [])
def C_i_HashOk : Fns := [(178, .plain, F_i_areWords), (84, .plain, F_i_within)]
def F_i_HashOk : Fun1 := funV P_i_HashOk (fun d => (T_i_HashOk d.1).val) O_i_HashOk
def Q_i_HashOk : Loops := fun _ _ => .fail
theorem e_i_HashOk : ∀ d, pcall ⟨lookT tys, ctrOf C_i_HashOk, kindOf C_i_HashOk, 3, 4⟩ 0 Q_i_HashOk Try.f199 .plain (mkA P_i_HashOk d) = (T_i_HashOk d.1).run fun r => some (O_i_HashOk r) := fun d => by kernel_rfl
theorem fn_i_HashOk : Fn Try.prog 199 .plain F_i_HashOk := fn_of (cfgOk_of mixed tys_ok (show FnsOk Try.prog C_i_HashOk from ⟨fn_i_areWords, fn_i_within, trivial⟩)) Try.func199 (by kernel_rfl) (by kernel_rfl) (fun cx b hp hb => all_of (by kernel_rfl : loopsOf (Try.f199.body.getD .skip) = []) trivial b hb) (R := (Bool × Unit)) (T := fun (d : aden P_i_HashOk) => T_i_HashOk d.1) e_i_HashOk
def P_i_Cut : List (Bool × List Sh) := [(false, [.sl 5 [.int .u8]]), (false, [.int .i64]), (false, [.int .i64])]
def O_i_Cut (r : (YBs) × (Bool × Unit)) : List RV × List RV := ([rv (false, [.sl 5 [.int .u8]]) r.1, rv (false, [.bool]) r.2], [])
def C_i_Cut : Fns := []
def F_i_Cut : Fun1 := funV P_i_Cut (fun d => (T_i_Cut d.1 d.2.1 d.2.2.1).val) O_i_Cut
def Q_i_Cut : Loops := fun _ _ => .fail
theorem e_i_Cut : ∀ d, pcall ⟨lookT tys, ctrOf C_i_Cut, kindOf C_i_Cut, 3, 4⟩ 0 Q_i_Cut Try.f211 .plain (mkA P_i_Cut d) = (T_i_Cut d.1 d.2.1 d.2.2.1).run fun r => some (O_i_Cut r) := fun d => by kernel_rfl
theorem fn_i_Cut : Fn Try.prog 211 .plain F_i_Cut := fn_of (cfgOk_of mixed tys_ok (show FnsOk Try.prog C_i_Cut from trivial)) Try.func211 (by kernel_rfl) (by kernel_rfl) (fun cx b hp hb => all_of (by kernel_rfl : loopsOf (Try.f211.body.getD .skip) = []) trivial b hb) (R := (YBs) × (Bool × Unit)) (T := fun (d : aden P_i_Cut) => T_i_Cut d.1 d.2.1 d.2.2.1) e_i_Cut
def P_i_GetN : List (Bool × List Sh) := [(false, [.sl 5 [.int .u8]]), (false, [.int .i64]), (false, [.int .i64])]
def O_i_GetN (r : (YI) × (YI) × (Bool × Unit)) : List RV × List RV := ([rv (false, [.int .i64]) r.1, rv (false, [.int .i64]) r.2.1, rv (false, [.bool]) r.2.2], [])
def C_i_GetN : Fns := [(211, .plain, F_i_Cut)]
def F_i_GetN : Fun1 := funV P_i_GetN (fun d => (T_i_GetN d.1 d.2.1 d.2.2.1).val) O_i_GetN
def K_i_GetN_8 : Sk := ⟨[(1, .v false [(.int .i64, .nil)]), (2, .v false [(.int .i64, .nil)]), (11, .v false [(.int .i64, .nil)]), (29, .v false [(.sl 5 [.int .u8], (.own 9000000))]), (30, .v false [(.int .i64, .nil)]), (31, .v false [(.int .i64, .nil)])], [], [9000000]⟩
def X_i_GetN_8 : List (Ex × Sk) := [((.exit 0), ⟨[(1, .v false [(.int .i64, .nil)]), (2, .v false [(.int .i64, .nil)]), (11, .v false [(.int .i64, .nil)])], [], []⟩)]
def Q_i_GetN : Loops := fun i st => cond (Nat.beq i 8) (lam K_i_GetN_8 9000000 X_i_GetN_8 B_i_GetN_8 st) <| .fail
theorem lp_i_GetN_8 : ∀ d, bod ⟨lookT tys, ctrOf C_i_GetN, kindOf C_i_GetN, 3, 4⟩ 0 Try.f210.ntmps Q_i_GetN (nthLoop Try.f210 0) K_i_GetN_8 9000000 X_i_GetN_8 d = B_i_GetN_8 d := fun d => by kernel_rfl
theorem lo_i_GetN_8 (cx : Cx) (hp : cx.pin.length ≤ 0) : LoopOk Try.prog cx Try.f210.ntmps Q_i_GetN (nthLoop Try.f210 0) := loop_of (cfgOk_of mixed tys_ok (show FnsOk Try.prog C_i_GetN from ⟨fn_i_Cut, trivial⟩)) hp (all_of (by kernel_rfl : loopsOf (nthLoop Try.f210 0) = []) trivial) (by kernel_rfl) lp_i_GetN_8
theorem e_i_GetN : ∀ d, pcall ⟨lookT tys, ctrOf C_i_GetN, kindOf C_i_GetN, 3, 4⟩ 0 Q_i_GetN Try.f210 .plain (mkA P_i_GetN d) = (T_i_GetN d.1 d.2.1 d.2.2.1).run fun r => some (O_i_GetN r) := fun d => by kernel_rfl
theorem fn_i_GetN : Fn Try.prog 210 .plain F_i_GetN := fn_of (cfgOk_of mixed tys_ok (show FnsOk Try.prog C_i_GetN from ⟨fn_i_Cut, trivial⟩)) Try.func210 (by kernel_rfl) (by kernel_rfl) (fun cx b hp hb => all_of (by kernel_rfl : loopsOf (Try.f210.body.getD .skip) = [nthLoop Try.f210 0]) ⟨lo_i_GetN_8 cx hp, trivial⟩ b hb) (R := (YI) × (YI) × (Bool × Unit)) (T := fun (d : aden P_i_GetN) => T_i_GetN d.1 d.2.1 d.2.2.1) e_i_GetN
def P_i_Rot : List (Bool × List Sh) := [(false, [.int .i64]), (false, [.int .i64])]
def O_i_Rot (r : (YI)) : List RV × List RV := ([rv (false, [.int .i64]) r], [])
def C_i_Rot : Fns := []
def F_i_Rot : Fun1 := funV P_i_Rot (fun d => (T_i_Rot d.1 d.2.1).val) O_i_Rot
def Q_i_Rot : Loops := fun _ _ => .fail
theorem e_i_Rot : ∀ d, pcall ⟨lookT tys, ctrOf C_i_Rot, kindOf C_i_Rot, 3, 4⟩ 0 Q_i_Rot Try.f207 .plain (mkA P_i_Rot d) = (T_i_Rot d.1 d.2.1).run fun r => some (O_i_Rot r) := fun d => by kernel_rfl
theorem fn_i_Rot : Fn Try.prog 207 .plain F_i_Rot := fn_of (cfgOk_of mixed tys_ok (show FnsOk Try.prog C_i_Rot from trivial)) Try.func207 (by kernel_rfl) (by kernel_rfl) (fun cx b hp hb => all_of (by kernel_rfl : loopsOf (Try.f207.body.getD .skip) = []) trivial b hb) (R := (YI)) (T := fun (d : aden P_i_Rot) => T_i_Rot d.1 d.2.1) e_i_Rot
def P_i_Schedule : List (Bool × List Sh) := [(false, [.sl 5 [.int .u8]])]
def O_i_Schedule (r : ((List YI) × Unit)) : List RV × List RV := ([rv (false, [.sl 3 [.int .i64]]) r], [])
def C_i_Schedule : Fns := [(210, .plain, F_i_GetN), (207, .plain, F_i_Rot)]
def F_i_Schedule : Fun1 := funV P_i_Schedule (fun d => (T_i_Schedule d.1).val) O_i_Schedule
def K_i_Schedule_9 : Sk := ⟨[(3, .v false [(.sl 3 [.int .i64], (.own 10000000))]), (5, .v false [(.int .i64, .nil)])], [], [10000000]⟩
def X_i_Schedule_9 : List (Ex × Sk) := [((.exit 2), ⟨[(3, .v false [(.sl 3 [.int .i64], (.own 10000000))])], [], [10000000]⟩)]
def K_i_Schedule_5 : Sk := ⟨[(0, .v false [(.sl 5 [.int .u8], .ro)]), (3, .v false [(.sl 3 [.int .i64], (.own 6000000))]), (4, .v false [(.int .i64, .nil)])], [], [6000000]⟩
def X_i_Schedule_5 : List (Ex × Sk) := [((.exit 0), ⟨[(3, .v false [(.sl 3 [.int .i64], (.own 6000000))])], [], [6000000]⟩)]
def Q_i_Schedule : Loops := fun i st => cond (Nat.beq i 5) (lam K_i_Schedule_5 6000000 X_i_Schedule_5 B_i_Schedule_5 st) <| cond (Nat.beq i 9) (lam K_i_Schedule_9 10000000 X_i_Schedule_9 B_i_Schedule_9 st) <| .fail
theorem lp_i_Schedule_5 : ∀ d, bod ⟨lookT tys, ctrOf C_i_Schedule, kindOf C_i_Schedule, 3, 4⟩ 0 Try.f206.ntmps Q_i_Schedule (nthLoop Try.f206 0) K_i_Schedule_5 6000000 X_i_Schedule_5 d = B_i_Schedule_5 d := fun d => by kernel_rfl
theorem lo_i_Schedule_5 (cx : Cx) (hp : cx.pin.length ≤ 0) : LoopOk Try.prog cx Try.f206.ntmps Q_i_Schedule (nthLoop Try.f206 0) := loop_of (cfgOk_of mixed tys_ok (show FnsOk Try.prog C_i_Schedule from ⟨fn_i_GetN, fn_i_Rot, trivial⟩)) hp (all_of (by kernel_rfl : loopsOf (nthLoop Try.f206 0) = []) trivial) (by kernel_rfl) lp_i_Schedule_5
theorem lp_i_Schedule_9 : ∀ d, bod ⟨lookT tys, ctrOf C_i_Schedule, kindOf C_i_Schedule, 3, 4⟩ 0 Try.f206.ntmps Q_i_Schedule (nthLoop Try.f206 1) K_i_Schedule_9 10000000 X_i_Schedule_9 d = B_i_Schedule_9 d := fun d => by kernel_rfl
theorem lo_i_Schedule_9 (cx : Cx) (hp : cx.pin.length ≤ 0) : LoopOk Try.prog cx Try.f206.ntmps Q_i_Schedule (nthLoop Try.f206 1) := loop_of (cfgOk_of mixed tys_ok (show FnsOk Try.prog C_i_Schedule from ⟨fn_i_GetN, fn_i_Rot, trivial⟩)) hp (all_of (by kernel_rfl : loopsOf (nthLoop Try.f206 1) = []) trivial) (by kernel_rfl) lp_i_Schedule_9
theorem e_i_Schedule : ∀ d, pcall ⟨lookT tys, ctrOf C_i_Schedule, kindOf C_i_Schedule, 3, 4⟩ 0 Q_i_Schedule Try.f206 .plain (mkA P_i_Schedule d) = (T_i_Schedule d.1).run fun r => some (O_i_Schedule r) := fun d => by kernel_rfl
theorem fn_i_Schedule : Fn Try.prog 206 .plain F_i_Schedule := fn_of (cfgOk_of mixed tys_ok (show FnsOk Try.prog C_i_Schedule from ⟨fn_i_GetN, fn_i_Rot, trivial⟩)) Try.func206 (by kernel_rfl) (by kernel_rfl) (fun cx b hp hb => all_of (by kernel_rfl : loopsOf (Try.f206.body.getD .skip) = [nthLoop Try.f206 0, nthLoop Try.f206 1]) ⟨lo_i_Schedule_5 cx hp, lo_i_Schedule_9 cx hp, trivial⟩ b hb) (R := ((List YI) × Unit)) (T := fun (d : aden P_i_Schedule) => T_i_Schedule d.1) e_i_Schedule
theorem round_any (n : Int) (w : World) (h0 : 0 ≤ n) (h1 : n ≤ 63) :
    Calls Try.prog 208 #[.int .i64 n] w (Ret w (.int .i64 (roundL[n.toNat]?.getD 0))) := by
  have hx : ∃ x, roundL[n.toNat]? = some x := ⟨_, List.getElem?_eq_getElem (by simp [roundL]; omega)⟩
  obtain ⟨x, hx⟩ := hx
  have hcell : (putRow 225 w roundC).cell? ⟨w.heap.size, n.toNat, none⟩ = some (.int .i64 x) := by
    rw [putRow_cell]; unfold roundC; rw [List.getElem?_toArray, List.getElem?_map, hx]; rfl
  rw [hx]
  go_enter Try.func208, Try.ntmps208
  go_wp2_with (first | (refine wpList_buildC rfl 225 _ rfl roundC (by kernel_rfl) ?_) | (refine wpList_allocC rfl 225 rfl _ _ zeroC (by kernel_rfl) (by kernel_rfl) (by kernel_rfl) ?_) | (refine wpList_storeC rfl 225 _ _ rfl roundC rfl rfl (by kernel_rfl) (by kernel_rfl) (by kernel_rfl) ?_))
  go_ret
  refine Ret.mk rfl ?_
  rw [putRow_eq]
  exact (Grew.refl _).alloc _
theorem round_out (n : Int) (w : World) (h0 : ¬ (0 ≤ n ∧ n ≤ 63)) :
    Calls Try.prog 208 #[.int .i64 n] w (Ret w (.int .i64 0)) := by
  by_cases h : n < 0
  · go_enter Try.func208, Try.ntmps208
    go_wp2_with fail
    go_ret
    exact Ret.mk rfl (Grew.refl _)
  · have h2 : 63 < n := by omega
    go_enter Try.func208, Try.ntmps208
    go_wp2_with fail
    go_ret
    exact Ret.mk rfl (Grew.refl _)
def P_i_RoundWord : List (Bool × List Sh) := [(false, [.int .i64])]
def O_i_RoundWord (r : YI) : List RV × List RV := ([rv (false, [.int .i64]) r], [])
def F_i_RoundWord : Fun1 := funV P_i_RoundWord (fun d => (T_i_RoundWord d.1).val) O_i_RoundWord
theorem fn_i_RoundWord : Fn Try.prog 208 .plain F_i_RoundWord := by
  refine ⟨?_, Try.f208, Try.func208, by kernel_rfl, by kernel_rfl⟩
  intro rs res vals w G hv hG hr
  obtain ⟨d, x, rfl, h1, h2⟩ := funV_val hv
  obtain ⟨⟨n, _⟩, _⟩ := d
  cases h1
  subst h2
  match vals, hr with
  | [v], hr =>
    have e : v = .int .i64 n := hr.1.1.1
    subst e
    refine (?_ : Calls Try.prog 208 #[.int .i64 n] w (Ret w (.int .i64 (roundW n)))).mono fun e w' h => gives_int (roundW_wf n) h
    unfold roundW
    by_cases h : 0 ≤ n ∧ n ≤ 63
    · rw [if_pos h]; exact round_any n w h.1 h.2
    · rw [if_neg h]; exact round_out n w h

def P_i_Add32 : List (Bool × List Sh) := [(false, [.int .i64]), (false, [.int .i64])]
def O_i_Add32 (r : (YI)) : List RV × List RV := ([rv (false, [.int .i64]) r], [])
def C_i_Add32 : Fns := []
def F_i_Add32 : Fun1 := funV P_i_Add32 (fun d => (T_i_Add32 d.1 d.2.1).val) O_i_Add32
def Q_i_Add32 : Loops := fun _ _ => .fail
theorem e_i_Add32 : ∀ d, pcall ⟨lookT tys, ctrOf C_i_Add32, kindOf C_i_Add32, 3, 4⟩ 0 Q_i_Add32 Try.f209 .plain (mkA P_i_Add32 d) = (T_i_Add32 d.1 d.2.1).run fun r => some (O_i_Add32 r) := fun d => by kernel_rfl
theorem fn_i_Add32 : Fn Try.prog 209 .plain F_i_Add32 := fn_of (cfgOk_of mixed tys_ok (show FnsOk Try.prog C_i_Add32 from trivial)) Try.func209 (by kernel_rfl) (by kernel_rfl) (fun cx b hp hb => all_of (by kernel_rfl : loopsOf (Try.f209.body.getD .skip) = []) trivial b hb) (R := (YI)) (T := fun (d : aden P_i_Add32) => T_i_Add32 d.1 d.2.1) e_i_Add32
def P_i_Compress : List (Bool × List Sh) := [(false, [.sl 3 [.int .i64]]), (false, [.sl 5 [.int .u8]])]
def O_i_Compress (r : ((List YI) × Unit)) : List RV × List RV := ([rv (false, [.sl 3 [.int .i64]]) r], [])
def C_i_Compress : Fns := [(178, .plain, F_i_areWords), (206, .plain, F_i_Schedule), (207, .plain, F_i_Rot), (208, .plain, F_i_RoundWord), (209, .plain, F_i_Add32)]
def F_i_Compress : Fun1 := funV P_i_Compress (fun d => (T_i_Compress d.1 d.2.1).val) O_i_Compress
def K_i_Compress_16 : Sk := ⟨[(0, .v false [(.sl 3 [.int .i64], .ro)]), (5, .v false [(.sl 3 [.int .i64], (.own 17000000))]), (133, .v false [(.sl 3 [.int .i64], (.own 17000001))]), (134, .v false [(.int .i64, .nil)]), (135, .v false [(.int .i64, .nil)])], [], [17000000, 17000001]⟩
def X_i_Compress_16 : List (Ex × Sk) := [((.exit 2), ⟨[(5, .v false [(.sl 3 [.int .i64], (.own 17000000))])], [], [17000000]⟩)]
def K_i_Compress_7 : Sk := ⟨[(0, .v false [(.sl 3 [.int .i64], .ro)]), (5, .v false [(.sl 3 [.int .i64], (.own 8000000))]), (6, .v false [(.sl 3 [.int .i64], (.own 8000001))]), (7, .v false [(.int .i64, .nil)]), (8, .v false [(.int .i64, .nil)]), (9, .v false [(.int .i64, .nil)]), (10, .v false [(.int .i64, .nil)]), (11, .v false [(.int .i64, .nil)]), (12, .v false [(.int .i64, .nil)]), (13, .v false [(.int .i64, .nil)]), (14, .v false [(.int .i64, .nil)]), (15, .v false [(.int .i64, .nil)])], [], [8000000, 8000001]⟩
def X_i_Compress_7 : List (Ex × Sk) := [((.exit 0), ⟨[(0, .v false [(.sl 3 [.int .i64], .ro)]), (5, .v false [(.sl 3 [.int .i64], (.own 8000000))]), (7, .v false [(.int .i64, .nil)]), (8, .v false [(.int .i64, .nil)]), (9, .v false [(.int .i64, .nil)]), (10, .v false [(.int .i64, .nil)]), (11, .v false [(.int .i64, .nil)]), (12, .v false [(.int .i64, .nil)]), (13, .v false [(.int .i64, .nil)]), (14, .v false [(.int .i64, .nil)])], [], [8000000]⟩)]
def Q_i_Compress : Loops := fun i st => cond (Nat.beq i 7) (lam K_i_Compress_7 8000000 X_i_Compress_7 B_i_Compress_7 st) <| cond (Nat.beq i 16) (lam K_i_Compress_16 17000000 X_i_Compress_16 B_i_Compress_16 st) <| .fail
theorem lp_i_Compress_7 : ∀ d, bod ⟨lookT tys, ctrOf C_i_Compress, kindOf C_i_Compress, 3, 4⟩ 0 Try.f205.ntmps Q_i_Compress (nthLoop Try.f205 0) K_i_Compress_7 8000000 X_i_Compress_7 d = B_i_Compress_7 d := fun d => by kernel_rfl
theorem lo_i_Compress_7 (cx : Cx) (hp : cx.pin.length ≤ 0) : LoopOk Try.prog cx Try.f205.ntmps Q_i_Compress (nthLoop Try.f205 0) := loop_of (cfgOk_of mixed tys_ok (show FnsOk Try.prog C_i_Compress from ⟨fn_i_areWords, fn_i_Schedule, fn_i_Rot, fn_i_RoundWord, fn_i_Add32, trivial⟩)) hp (all_of (by kernel_rfl : loopsOf (nthLoop Try.f205 0) = []) trivial) (by kernel_rfl) lp_i_Compress_7
theorem lp_i_Compress_16 : ∀ d, bod ⟨lookT tys, ctrOf C_i_Compress, kindOf C_i_Compress, 3, 4⟩ 0 Try.f205.ntmps Q_i_Compress (nthLoop Try.f205 1) K_i_Compress_16 17000000 X_i_Compress_16 d = B_i_Compress_16 d := fun d => by kernel_rfl
theorem lo_i_Compress_16 (cx : Cx) (hp : cx.pin.length ≤ 0) : LoopOk Try.prog cx Try.f205.ntmps Q_i_Compress (nthLoop Try.f205 1) := loop_of (cfgOk_of mixed tys_ok (show FnsOk Try.prog C_i_Compress from ⟨fn_i_areWords, fn_i_Schedule, fn_i_Rot, fn_i_RoundWord, fn_i_Add32, trivial⟩)) hp (all_of (by kernel_rfl : loopsOf (nthLoop Try.f205 1) = []) trivial) (by kernel_rfl) lp_i_Compress_16
theorem e_i_Compress : ∀ d, pcall ⟨lookT tys, ctrOf C_i_Compress, kindOf C_i_Compress, 3, 4⟩ 0 Q_i_Compress Try.f205 .plain (mkA P_i_Compress d) = (T_i_Compress d.1 d.2.1).run fun r => some (O_i_Compress r) := fun d => by kernel_rfl
theorem fn_i_Compress : Fn Try.prog 205 .plain F_i_Compress := fn_of (cfgOk_of mixed tys_ok (show FnsOk Try.prog C_i_Compress from ⟨fn_i_areWords, fn_i_Schedule, fn_i_Rot, fn_i_RoundWord, fn_i_Add32, trivial⟩)) Try.func205 (by kernel_rfl) (by kernel_rfl) (fun cx b hp hb => all_of (by kernel_rfl : loopsOf (Try.f205.body.getD .skip) = [nthLoop Try.f205 0, nthLoop Try.f205 1]) ⟨lo_i_Compress_7 cx hp, lo_i_Compress_16 cx hp, trivial⟩ b hb) (R := ((List YI) × Unit)) (T := fun (d : aden P_i_Compress) => T_i_Compress d.1 d.2.1) e_i_Compress
def P_i_compressAll : List (Bool × List Sh) := [(false, [.sl 3 [.int .i64]]), (false, [.sl 5 [.int .u8]])]
def O_i_compressAll (r : ((List YI) × Unit) × (YBs)) : List RV × List RV := ([rv (false, [.sl 3 [.int .i64]]) r.1, rv (false, [.sl 5 [.int .u8]]) r.2], [])
def C_i_compressAll : Fns := [(205, .plain, F_i_Compress)]
def F_i_compressAll : Fun1 := funV P_i_compressAll (fun d => (T_i_compressAll d.1 d.2.1).val) O_i_compressAll
def K_i_compressAll_1 : Sk := ⟨[(0, .v false [(.sl 3 [.int .i64], .rd)]), (1, .v false [(.sl 5 [.int .u8], .ro)])], [], []⟩
def X_i_compressAll_1 : List (Ex × Sk) := [((.exit 0), ⟨[(0, .v false [(.sl 3 [.int .i64], .rd)]), (1, .v false [(.sl 5 [.int .u8], .ro)])], [], []⟩)]
def Q_i_compressAll : Loops := fun i st => cond (Nat.beq i 1) (lam K_i_compressAll_1 2000000 X_i_compressAll_1 B_i_compressAll_1 st) <| .fail
theorem lp_i_compressAll_1 : ∀ d, bod ⟨lookT tys, ctrOf C_i_compressAll, kindOf C_i_compressAll, 3, 4⟩ 0 Try.f200.ntmps Q_i_compressAll (nthLoop Try.f200 0) K_i_compressAll_1 2000000 X_i_compressAll_1 d = B_i_compressAll_1 d := fun d => by kernel_rfl
theorem lo_i_compressAll_1 (cx : Cx) (hp : cx.pin.length ≤ 0) : LoopOk Try.prog cx Try.f200.ntmps Q_i_compressAll (nthLoop Try.f200 0) := loop_of (cfgOk_of mixed tys_ok (show FnsOk Try.prog C_i_compressAll from ⟨fn_i_Compress, trivial⟩)) hp (all_of (by kernel_rfl : loopsOf (nthLoop Try.f200 0) = []) trivial) (by kernel_rfl) lp_i_compressAll_1
theorem e_i_compressAll : ∀ d, pcall ⟨lookT tys, ctrOf C_i_compressAll, kindOf C_i_compressAll, 3, 4⟩ 0 Q_i_compressAll Try.f200 .view (mkA P_i_compressAll d) = (T_i_compressAll d.1 d.2.1).run fun r => some (O_i_compressAll r) := fun d => by kernel_rfl
theorem fn_i_compressAll : Fn Try.prog 200 .view F_i_compressAll := fn_of (cfgOk_of mixed tys_ok (show FnsOk Try.prog C_i_compressAll from ⟨fn_i_Compress, trivial⟩)) Try.func200 (by kernel_rfl) (by kernel_rfl) (fun cx b hp hb => all_of (by kernel_rfl : loopsOf (Try.f200.body.getD .skip) = [nthLoop Try.f200 0]) ⟨lo_i_compressAll_1 cx hp, trivial⟩ b hb) (R := ((List YI) × Unit) × (YBs)) (T := fun (d : aden P_i_compressAll) => T_i_compressAll d.1 d.2.1) e_i_compressAll
def P_i_HashAdd : List (Bool × List Sh) := [(true, h_2), (false, [.sl 5 [.int .u8]])]
def O_i_HashAdd (r : (YHash)) : List RV × List RV := ([rv (true, h_2) r], [])
def C_i_HashAdd : Fns := [(199, .plain, F_i_HashOk), (123, .plain, F_i_clone), (119, .plain, F_i_joined), (200, .view, F_i_compressAll)]
def F_i_HashAdd : Fun1 := funV P_i_HashAdd (fun d => (T_i_HashAdd d.1 d.2.1).val) O_i_HashAdd
def Q_i_HashAdd : Loops := fun _ _ => .fail
theorem e_i_HashAdd : ∀ d, pcall ⟨lookT tys, ctrOf C_i_HashAdd, kindOf C_i_HashAdd, 3, 4⟩ 0 Q_i_HashAdd Try.f193 .plain (mkA P_i_HashAdd d) = (T_i_HashAdd d.1 d.2.1).run fun r => some (O_i_HashAdd r) := fun d => by kernel_rfl
theorem fn_i_HashAdd : Fn Try.prog 193 .plain F_i_HashAdd := fn_of (cfgOk_of mixed tys_ok (show FnsOk Try.prog C_i_HashAdd from ⟨fn_i_HashOk, fn_i_clone, fn_i_joined, fn_i_compressAll, trivial⟩)) Try.func193 (by kernel_rfl) (by kernel_rfl) (fun cx b hp hb => all_of (by kernel_rfl : loopsOf (Try.f193.body.getD .skip) = []) trivial b hb) (R := (YHash)) (T := fun (d : aden P_i_HashAdd) => T_i_HashAdd d.1 d.2.1) e_i_HashAdd
def P_i_Pad : List (Bool × List Sh) := [(false, [.int .i64])]
def O_i_Pad (r : (YBs)) : List RV × List RV := ([rv (false, [.sl 5 [.int .u8]]) r], [])
def C_i_Pad : Fns := [(84, .plain, F_i_within), (120, .plain, F_i_PutN)]
def F_i_Pad : Fun1 := funV P_i_Pad (fun d => (T_i_Pad d.1).val) O_i_Pad
def K_i_Pad_4 : Sk := ⟨[(0, .v false [(.int .i64, .nil)]), (3, .v false [(.sl 5 [.int .u8], (.own 5000000))])], [], [5000000]⟩
def X_i_Pad_4 : List (Ex × Sk) := [((.exit 0), ⟨[(0, .v false [(.int .i64, .nil)]), (3, .v false [(.sl 5 [.int .u8], (.own 5000000))])], [], [5000000]⟩)]
def Q_i_Pad : Loops := fun i st => cond (Nat.beq i 4) (lam K_i_Pad_4 5000000 X_i_Pad_4 B_i_Pad_4 st) <| .fail
theorem lp_i_Pad_4 : ∀ d, bod ⟨lookT tys, ctrOf C_i_Pad, kindOf C_i_Pad, 3, 4⟩ 0 Try.f201.ntmps Q_i_Pad (nthLoop Try.f201 0) K_i_Pad_4 5000000 X_i_Pad_4 d = B_i_Pad_4 d := fun d => by kernel_rfl
theorem lo_i_Pad_4 (cx : Cx) (hp : cx.pin.length ≤ 0) : LoopOk Try.prog cx Try.f201.ntmps Q_i_Pad (nthLoop Try.f201 0) := loop_of (cfgOk_of mixed tys_ok (show FnsOk Try.prog C_i_Pad from ⟨fn_i_within, fn_i_PutN, trivial⟩)) hp (all_of (by kernel_rfl : loopsOf (nthLoop Try.f201 0) = []) trivial) (by kernel_rfl) lp_i_Pad_4
theorem e_i_Pad : ∀ d, pcall ⟨lookT tys, ctrOf C_i_Pad, kindOf C_i_Pad, 3, 4⟩ 0 Q_i_Pad Try.f201 .plain (mkA P_i_Pad d) = (T_i_Pad d.1).run fun r => some (O_i_Pad r) := fun d => by kernel_rfl
theorem fn_i_Pad : Fn Try.prog 201 .plain F_i_Pad := fn_of (cfgOk_of mixed tys_ok (show FnsOk Try.prog C_i_Pad from ⟨fn_i_within, fn_i_PutN, trivial⟩)) Try.func201 (by kernel_rfl) (by kernel_rfl) (fun cx b hp hb => all_of (by kernel_rfl : loopsOf (Try.f201.body.getD .skip) = [nthLoop Try.f201 0]) ⟨lo_i_Pad_4 cx hp, trivial⟩ b hb) (R := (YBs)) (T := fun (d : aden P_i_Pad) => T_i_Pad d.1) e_i_Pad
def P_i_wordBytes : List (Bool × List Sh) := [(false, [.sl 3 [.int .i64]])]
def O_i_wordBytes (r : (YBs)) : List RV × List RV := ([rv (false, [.sl 5 [.int .u8]]) r], [])
def C_i_wordBytes : Fns := [(120, .plain, F_i_PutN)]
def F_i_wordBytes : Fun1 := funV P_i_wordBytes (fun d => (T_i_wordBytes d.1).val) O_i_wordBytes
def K_i_wordBytes_3 : Sk := ⟨[(3, .v false [(.sl 5 [.int .u8], (.own 4000000))]), (7, .v false [(.sl 3 [.int .i64], .ro)]), (8, .v false [(.int .i64, .nil)]), (9, .v false [(.int .i64, .nil)])], [], [4000000]⟩
def X_i_wordBytes_3 : List (Ex × Sk) := [((.exit 0), ⟨[(3, .v false [(.sl 5 [.int .u8], (.own 4000000))])], [], [4000000]⟩)]
def Q_i_wordBytes : Loops := fun i st => cond (Nat.beq i 3) (lam K_i_wordBytes_3 4000000 X_i_wordBytes_3 B_i_wordBytes_3 st) <| .fail
theorem lp_i_wordBytes_3 : ∀ d, bod ⟨lookT tys, ctrOf C_i_wordBytes, kindOf C_i_wordBytes, 3, 4⟩ 0 Try.f202.ntmps Q_i_wordBytes (nthLoop Try.f202 0) K_i_wordBytes_3 4000000 X_i_wordBytes_3 d = B_i_wordBytes_3 d := fun d => by kernel_rfl
theorem lo_i_wordBytes_3 (cx : Cx) (hp : cx.pin.length ≤ 0) : LoopOk Try.prog cx Try.f202.ntmps Q_i_wordBytes (nthLoop Try.f202 0) := loop_of (cfgOk_of mixed tys_ok (show FnsOk Try.prog C_i_wordBytes from ⟨fn_i_PutN, trivial⟩)) hp (all_of (by kernel_rfl : loopsOf (nthLoop Try.f202 0) = []) trivial) (by kernel_rfl) lp_i_wordBytes_3
theorem e_i_wordBytes : ∀ d, pcall ⟨lookT tys, ctrOf C_i_wordBytes, kindOf C_i_wordBytes, 3, 4⟩ 0 Q_i_wordBytes Try.f202 .plain (mkA P_i_wordBytes d) = (T_i_wordBytes d.1).run fun r => some (O_i_wordBytes r) := fun d => by kernel_rfl
theorem fn_i_wordBytes : Fn Try.prog 202 .plain F_i_wordBytes := fn_of (cfgOk_of mixed tys_ok (show FnsOk Try.prog C_i_wordBytes from ⟨fn_i_PutN, trivial⟩)) Try.func202 (by kernel_rfl) (by kernel_rfl) (fun cx b hp hb => all_of (by kernel_rfl : loopsOf (Try.f202.body.getD .skip) = [nthLoop Try.f202 0]) ⟨lo_i_wordBytes_3 cx hp, trivial⟩ b hb) (R := (YBs)) (T := fun (d : aden P_i_wordBytes) => T_i_wordBytes d.1) e_i_wordBytes
def P_i_HashEnd : List (Bool × List Sh) := [(true, h_2)]
def O_i_HashEnd (r : (YBs)) : List RV × List RV := ([rv (false, [.sl 5 [.int .u8]]) r], [])
def C_i_HashEnd : Fns := [(199, .plain, F_i_HashOk), (201, .plain, F_i_Pad), (119, .plain, F_i_joined), (200, .view, F_i_compressAll), (202, .plain, F_i_wordBytes)]
def F_i_HashEnd : Fun1 := funV P_i_HashEnd (fun d => (T_i_HashEnd d.1).val) O_i_HashEnd
def Q_i_HashEnd : Loops := fun _ _ => .fail
theorem e_i_HashEnd : ∀ d, pcall ⟨lookT tys, ctrOf C_i_HashEnd, kindOf C_i_HashEnd, 3, 4⟩ 0 Q_i_HashEnd Try.f192 .plain (mkA P_i_HashEnd d) = (T_i_HashEnd d.1).run fun r => some (O_i_HashEnd r) := fun d => by kernel_rfl
theorem fn_i_HashEnd : Fn Try.prog 192 .plain F_i_HashEnd := fn_of (cfgOk_of mixed tys_ok (show FnsOk Try.prog C_i_HashEnd from ⟨fn_i_HashOk, fn_i_Pad, fn_i_joined, fn_i_compressAll, fn_i_wordBytes, trivial⟩)) Try.func192 (by kernel_rfl) (by kernel_rfl) (fun cx b hp hb => all_of (by kernel_rfl : loopsOf (Try.f192.body.getD .skip) = []) trivial b hb) (R := (YBs)) (T := fun (d : aden P_i_HashEnd) => T_i_HashEnd d.1) e_i_HashEnd
def P_i_Sha : List (Bool × List Sh) := [(false, [.sl 5 [.int .u8]])]
def O_i_Sha (r : (YBs)) : List RV × List RV := ([rv (false, [.sl 5 [.int .u8]]) r], [])
def C_i_Sha : Fns := [(194, .plain, F_i_HashNew), (193, .plain, F_i_HashAdd), (192, .plain, F_i_HashEnd)]
def F_i_Sha : Fun1 := funV P_i_Sha (fun d => (T_i_Sha d.1).val) O_i_Sha
def Q_i_Sha : Loops := fun _ _ => .fail
theorem e_i_Sha : ∀ d, pcall ⟨lookT tys, ctrOf C_i_Sha, kindOf C_i_Sha, 3, 4⟩ 0 Q_i_Sha Try.f186 .plain (mkA P_i_Sha d) = (T_i_Sha d.1).run fun r => some (O_i_Sha r) := fun d => by kernel_rfl
theorem fn_i_Sha : Fn Try.prog 186 .plain F_i_Sha := fn_of (cfgOk_of mixed tys_ok (show FnsOk Try.prog C_i_Sha from ⟨fn_i_HashNew, fn_i_HashAdd, fn_i_HashEnd, trivial⟩)) Try.func186 (by kernel_rfl) (by kernel_rfl) (fun cx b hp hb => all_of (by kernel_rfl : loopsOf (Try.f186.body.getD .skip) = []) trivial b hb) (R := (YBs)) (T := fun (d : aden P_i_Sha) => T_i_Sha d.1) e_i_Sha
def P_i_BlockKey : List (Bool × List Sh) := [(false, [.sl 5 [.int .u8]])]
def O_i_BlockKey (r : (YBs)) : List RV × List RV := ([rv (false, [.sl 5 [.int .u8]]) r], [])
def C_i_BlockKey : Fns := [(123, .plain, F_i_clone), (186, .plain, F_i_Sha)]
def F_i_BlockKey : Fun1 := funV P_i_BlockKey (fun d => (T_i_BlockKey d.1).val) O_i_BlockKey
def K_i_BlockKey_6 : Sk := ⟨[(3, .v false [(.sl 5 [.int .u8], (.own 7000000))])], [], [7000000]⟩
def X_i_BlockKey_6 : List (Ex × Sk) := [((.exit 0), ⟨[(3, .v false [(.sl 5 [.int .u8], (.own 7000000))])], [], [7000000]⟩)]
def Q_i_BlockKey : Loops := fun i st => cond (Nat.beq i 6) (lam K_i_BlockKey_6 7000000 X_i_BlockKey_6 B_i_BlockKey_6 st) <| .fail
theorem lp_i_BlockKey_6 : ∀ d, bod ⟨lookT tys, ctrOf C_i_BlockKey, kindOf C_i_BlockKey, 3, 4⟩ 0 Try.f185.ntmps Q_i_BlockKey (nthLoop Try.f185 0) K_i_BlockKey_6 7000000 X_i_BlockKey_6 d = B_i_BlockKey_6 d := fun d => by kernel_rfl
theorem lo_i_BlockKey_6 (cx : Cx) (hp : cx.pin.length ≤ 0) : LoopOk Try.prog cx Try.f185.ntmps Q_i_BlockKey (nthLoop Try.f185 0) := loop_of (cfgOk_of mixed tys_ok (show FnsOk Try.prog C_i_BlockKey from ⟨fn_i_clone, fn_i_Sha, trivial⟩)) hp (all_of (by kernel_rfl : loopsOf (nthLoop Try.f185 0) = []) trivial) (by kernel_rfl) lp_i_BlockKey_6
theorem e_i_BlockKey : ∀ d, pcall ⟨lookT tys, ctrOf C_i_BlockKey, kindOf C_i_BlockKey, 3, 4⟩ 0 Q_i_BlockKey Try.f185 .plain (mkA P_i_BlockKey d) = (T_i_BlockKey d.1).run fun r => some (O_i_BlockKey r) := fun d => by kernel_rfl
theorem fn_i_BlockKey : Fn Try.prog 185 .plain F_i_BlockKey := fn_of (cfgOk_of mixed tys_ok (show FnsOk Try.prog C_i_BlockKey from ⟨fn_i_clone, fn_i_Sha, trivial⟩)) Try.func185 (by kernel_rfl) (by kernel_rfl) (fun cx b hp hb => all_of (by kernel_rfl : loopsOf (Try.f185.body.getD .skip) = [nthLoop Try.f185 0]) ⟨lo_i_BlockKey_6 cx hp, trivial⟩ b hb) (R := (YBs)) (T := fun (d : aden P_i_BlockKey) => T_i_BlockKey d.1) e_i_BlockKey
def P_i_masked : List (Bool × List Sh) := [(false, [.sl 5 [.int .u8]]), (false, [.int .u8])]
def O_i_masked (r : (YBs)) : List RV × List RV := ([rv (false, [.sl 5 [.int .u8]]) r], [])
def C_i_masked : Fns := []
def F_i_masked : Fun1 := funV P_i_masked (fun d => (T_i_masked d.1 d.2.1).val) O_i_masked
def K_i_masked_3 : Sk := ⟨[(1, .v false [(.int .u8, .nil)]), (5, .v false [(.sl 5 [.int .u8], (.own 4000000))]), (9, .v false [(.sl 5 [.int .u8], .ro)]), (10, .v false [(.int .i64, .nil)]), (11, .v false [(.int .i64, .nil)])], [], [4000000]⟩
def X_i_masked_3 : List (Ex × Sk) := [((.exit 0), ⟨[(5, .v false [(.sl 5 [.int .u8], (.own 4000000))])], [], [4000000]⟩)]
def Q_i_masked : Loops := fun i st => cond (Nat.beq i 3) (lam K_i_masked_3 4000000 X_i_masked_3 B_i_masked_3 st) <| .fail
theorem lp_i_masked_3 : ∀ d, bod ⟨lookT tys, ctrOf C_i_masked, kindOf C_i_masked, 3, 4⟩ 0 Try.f187.ntmps Q_i_masked (nthLoop Try.f187 0) K_i_masked_3 4000000 X_i_masked_3 d = B_i_masked_3 d := fun d => by kernel_rfl
theorem lo_i_masked_3 (cx : Cx) (hp : cx.pin.length ≤ 0) : LoopOk Try.prog cx Try.f187.ntmps Q_i_masked (nthLoop Try.f187 0) := loop_of (cfgOk_of mixed tys_ok (show FnsOk Try.prog C_i_masked from trivial)) hp (all_of (by kernel_rfl : loopsOf (nthLoop Try.f187 0) = []) trivial) (by kernel_rfl) lp_i_masked_3
theorem e_i_masked : ∀ d, pcall ⟨lookT tys, ctrOf C_i_masked, kindOf C_i_masked, 3, 4⟩ 0 Q_i_masked Try.f187 .plain (mkA P_i_masked d) = (T_i_masked d.1 d.2.1).run fun r => some (O_i_masked r) := fun d => by kernel_rfl
theorem fn_i_masked : Fn Try.prog 187 .plain F_i_masked := fn_of (cfgOk_of mixed tys_ok (show FnsOk Try.prog C_i_masked from trivial)) Try.func187 (by kernel_rfl) (by kernel_rfl) (fun cx b hp hb => all_of (by kernel_rfl : loopsOf (Try.f187.body.getD .skip) = [nthLoop Try.f187 0]) ⟨lo_i_masked_3 cx hp, trivial⟩ b hb) (R := (YBs)) (T := fun (d : aden P_i_masked) => T_i_masked d.1 d.2.1) e_i_masked
def P_i_Hmac : List (Bool × List Sh) := [(false, [.sl 5 [.int .u8]]), (false, [.sl 5 [.int .u8]])]
def O_i_Hmac (r : (YBs)) : List RV × List RV := ([rv (false, [.sl 5 [.int .u8]]) r], [])
def C_i_Hmac : Fns := [(185, .plain, F_i_BlockKey), (187, .plain, F_i_masked), (119, .plain, F_i_joined), (186, .plain, F_i_Sha)]
def F_i_Hmac : Fun1 := funV P_i_Hmac (fun d => (T_i_Hmac d.1 d.2.1).val) O_i_Hmac
def Q_i_Hmac : Loops := fun _ _ => .fail
theorem e_i_Hmac : ∀ d, pcall ⟨lookT tys, ctrOf C_i_Hmac, kindOf C_i_Hmac, 3, 4⟩ 0 Q_i_Hmac Try.f174 .plain (mkA P_i_Hmac d) = (T_i_Hmac d.1 d.2.1).run fun r => some (O_i_Hmac r) := fun d => by kernel_rfl
theorem fn_i_Hmac : Fn Try.prog 174 .plain F_i_Hmac := fn_of (cfgOk_of mixed tys_ok (show FnsOk Try.prog C_i_Hmac from ⟨fn_i_BlockKey, fn_i_masked, fn_i_joined, fn_i_Sha, trivial⟩)) Try.func174 (by kernel_rfl) (by kernel_rfl) (fun cx b hp hb => all_of (by kernel_rfl : loopsOf (Try.f174.body.getD .skip) = []) trivial b hb) (R := (YBs)) (T := fun (d : aden P_i_Hmac) => T_i_Hmac d.1 d.2.1) e_i_Hmac
def P_i_BlockOf : List (Bool × List Sh) := [(false, [.sl 5 [.int .u8]]), (false, [.sl 5 [.int .u8]]), (false, [.int .i64])]
def O_i_BlockOf (r : (YBs)) : List RV × List RV := ([rv (false, [.sl 5 [.int .u8]]) r], [])
def C_i_BlockOf : Fns := [(84, .plain, F_i_within), (119, .plain, F_i_joined), (120, .plain, F_i_PutN), (174, .plain, F_i_Hmac)]
def F_i_BlockOf : Fun1 := funV P_i_BlockOf (fun d => (T_i_BlockOf d.1 d.2.1 d.2.2.1).val) O_i_BlockOf
def Q_i_BlockOf : Loops := fun _ _ => .fail
theorem e_i_BlockOf : ∀ d, pcall ⟨lookT tys, ctrOf C_i_BlockOf, kindOf C_i_BlockOf, 3, 4⟩ 0 Q_i_BlockOf Try.f184 .plain (mkA P_i_BlockOf d) = (T_i_BlockOf d.1 d.2.1 d.2.2.1).run fun r => some (O_i_BlockOf r) := fun d => by kernel_rfl
theorem fn_i_BlockOf : Fn Try.prog 184 .plain F_i_BlockOf := fn_of (cfgOk_of mixed tys_ok (show FnsOk Try.prog C_i_BlockOf from ⟨fn_i_within, fn_i_joined, fn_i_PutN, fn_i_Hmac, trivial⟩)) Try.func184 (by kernel_rfl) (by kernel_rfl) (fun cx b hp hb => all_of (by kernel_rfl : loopsOf (Try.f184.body.getD .skip) = []) trivial b hb) (R := (YBs)) (T := fun (d : aden P_i_BlockOf) => T_i_BlockOf d.1 d.2.1 d.2.2.1) e_i_BlockOf
def P_i_Stream : List (Bool × List Sh) := [(false, [.sl 5 [.int .u8]]), (false, [.sl 5 [.int .u8]]), (false, [.int .i64])]
def O_i_Stream (r : (YBs)) : List RV × List RV := ([rv (false, [.sl 5 [.int .u8]]) r], [])
def C_i_Stream : Fns := [(84, .plain, F_i_within), (184, .plain, F_i_BlockOf), (123, .plain, F_i_clone)]
def F_i_Stream : Fun1 := funV P_i_Stream (fun d => (T_i_Stream d.1 d.2.1 d.2.2.1).val) O_i_Stream
def K_i_Stream_5 : Sk := ⟨[(0, .v false [(.sl 5 [.int .u8], .ro)]), (1, .v false [(.sl 5 [.int .u8], .ro)]), (2, .v false [(.int .i64, .nil)]), (7, .v false [(.sl 5 [.int .u8], (.own 6000000))]), (8, .v false [(.int .i64, .nil)])], [], [6000000]⟩
def X_i_Stream_5 : List (Ex × Sk) := [((.exit 0), ⟨[(2, .v false [(.int .i64, .nil)]), (7, .v false [(.sl 5 [.int .u8], (.own 6000000))])], [], [6000000]⟩)]
def Q_i_Stream : Loops := fun i st => cond (Nat.beq i 5) (lam K_i_Stream_5 6000000 X_i_Stream_5 B_i_Stream_5 st) <| .fail
theorem lp_i_Stream_5 : ∀ d, bod ⟨lookT tys, ctrOf C_i_Stream, kindOf C_i_Stream, 3, 4⟩ 0 Try.f173.ntmps Q_i_Stream (nthLoop Try.f173 0) K_i_Stream_5 6000000 X_i_Stream_5 d = B_i_Stream_5 d := fun d => by kernel_rfl
theorem lo_i_Stream_5 (cx : Cx) (hp : cx.pin.length ≤ 0) : LoopOk Try.prog cx Try.f173.ntmps Q_i_Stream (nthLoop Try.f173 0) := loop_of (cfgOk_of mixed tys_ok (show FnsOk Try.prog C_i_Stream from ⟨fn_i_within, fn_i_BlockOf, fn_i_clone, trivial⟩)) hp (all_of (by kernel_rfl : loopsOf (nthLoop Try.f173 0) = []) trivial) (by kernel_rfl) lp_i_Stream_5
theorem e_i_Stream : ∀ d, pcall ⟨lookT tys, ctrOf C_i_Stream, kindOf C_i_Stream, 3, 4⟩ 0 Q_i_Stream Try.f173 .plain (mkA P_i_Stream d) = (T_i_Stream d.1 d.2.1 d.2.2.1).run fun r => some (O_i_Stream r) := fun d => by kernel_rfl
theorem fn_i_Stream : Fn Try.prog 173 .plain F_i_Stream := fn_of (cfgOk_of mixed tys_ok (show FnsOk Try.prog C_i_Stream from ⟨fn_i_within, fn_i_BlockOf, fn_i_clone, trivial⟩)) Try.func173 (by kernel_rfl) (by kernel_rfl) (fun cx b hp hb => all_of (by kernel_rfl : loopsOf (Try.f173.body.getD .skip) = [nthLoop Try.f173 0]) ⟨lo_i_Stream_5 cx hp, trivial⟩ b hb) (R := (YBs)) (T := fun (d : aden P_i_Stream) => T_i_Stream d.1 d.2.1 d.2.2.1) e_i_Stream
def P_i_Mix : List (Bool × List Sh) := [(false, [.sl 5 [.int .u8]]), (false, [.sl 5 [.int .u8]]), (false, [.sl 5 [.int .u8]])]
def O_i_Mix (r : (YBs)) : List RV × List RV := ([rv (false, [.sl 5 [.int .u8]]) r], [])
def C_i_Mix : Fns := [(173, .plain, F_i_Stream)]
def F_i_Mix : Fun1 := funV P_i_Mix (fun d => (T_i_Mix d.1 d.2.1 d.2.2.1).val) O_i_Mix
def K_i_Mix_5 : Sk := ⟨[(2, .v false [(.sl 5 [.int .u8], .ro)]), (7, .v false [(.sl 5 [.int .u8], (.own 6000000))]), (28, .v false [(.sl 5 [.int .u8], (.own 6000001))]), (29, .v false [(.int .i64, .nil)]), (30, .v false [(.int .i64, .nil)])], [], [6000000, 6000001]⟩
def X_i_Mix_5 : List (Ex × Sk) := [((.exit 0), ⟨[(7, .v false [(.sl 5 [.int .u8], (.own 6000000))])], [], [6000000]⟩)]
def Q_i_Mix : Loops := fun i st => cond (Nat.beq i 5) (lam K_i_Mix_5 6000000 X_i_Mix_5 B_i_Mix_5 st) <| .fail
theorem lp_i_Mix_5 : ∀ d, bod ⟨lookT tys, ctrOf C_i_Mix, kindOf C_i_Mix, 3, 4⟩ 0 Try.f157.ntmps Q_i_Mix (nthLoop Try.f157 0) K_i_Mix_5 6000000 X_i_Mix_5 d = B_i_Mix_5 d := fun d => by kernel_rfl
theorem lo_i_Mix_5 (cx : Cx) (hp : cx.pin.length ≤ 0) : LoopOk Try.prog cx Try.f157.ntmps Q_i_Mix (nthLoop Try.f157 0) := loop_of (cfgOk_of mixed tys_ok (show FnsOk Try.prog C_i_Mix from ⟨fn_i_Stream, trivial⟩)) hp (all_of (by kernel_rfl : loopsOf (nthLoop Try.f157 0) = []) trivial) (by kernel_rfl) lp_i_Mix_5
theorem e_i_Mix : ∀ d, pcall ⟨lookT tys, ctrOf C_i_Mix, kindOf C_i_Mix, 3, 4⟩ 0 Q_i_Mix Try.f157 .plain (mkA P_i_Mix d) = (T_i_Mix d.1 d.2.1 d.2.2.1).run fun r => some (O_i_Mix r) := fun d => by kernel_rfl
theorem fn_i_Mix : Fn Try.prog 157 .plain F_i_Mix := fn_of (cfgOk_of mixed tys_ok (show FnsOk Try.prog C_i_Mix from ⟨fn_i_Stream, trivial⟩)) Try.func157 (by kernel_rfl) (by kernel_rfl) (fun cx b hp hb => all_of (by kernel_rfl : loopsOf (Try.f157.body.getD .skip) = [nthLoop Try.f157 0]) ⟨lo_i_Mix_5 cx hp, trivial⟩ b hb) (R := (YBs)) (T := fun (d : aden P_i_Mix) => T_i_Mix d.1 d.2.1 d.2.2.1) e_i_Mix
def P_i_TagInput : List (Bool × List Sh) := [(false, [.int .i64]), (true, h_9)]
def O_i_TagInput (r : (YBs)) : List RV × List RV := ([rv (false, [.sl 5 [.int .u8]]) r], [])
def C_i_TagInput : Fns := [(139, .plain, F_i_isRole), (156, .plain, F_i_Sealed), (127, .plain, F_i_FrameOk), (158, .plain, F_i_HeadOf), (119, .plain, F_i_joined)]
def F_i_TagInput : Fun1 := funV P_i_TagInput (fun d => (T_i_TagInput d.1 d.2.1).val) O_i_TagInput
def Q_i_TagInput : Loops := fun _ _ => .fail
theorem e_i_TagInput : ∀ d, pcall ⟨lookT tys, ctrOf C_i_TagInput, kindOf C_i_TagInput, 3, 4⟩ 0 Q_i_TagInput Try.f121 .plain (mkA P_i_TagInput d) = (T_i_TagInput d.1 d.2.1).run fun r => some (O_i_TagInput r) := fun d => by kernel_rfl
theorem fn_i_TagInput : Fn Try.prog 121 .plain F_i_TagInput := fn_of (cfgOk_of mixed tys_ok (show FnsOk Try.prog C_i_TagInput from ⟨fn_i_isRole, fn_i_Sealed, fn_i_FrameOk, fn_i_HeadOf, fn_i_joined, trivial⟩)) Try.func121 (by kernel_rfl) (by kernel_rfl) (fun cx b hp hb => all_of (by kernel_rfl : loopsOf (Try.f121.body.getD .skip) = []) trivial b hb) (R := (YBs)) (T := fun (d : aden P_i_TagInput) => T_i_TagInput d.1 d.2.1) e_i_TagInput
def P_i_Tag : List (Bool × List Sh) := [(false, [.sl 5 [.int .u8]]), (false, [.sl 5 [.int .u8]])]
def O_i_Tag (r : (YBs)) : List RV × List RV := ([rv (false, [.sl 5 [.int .u8]]) r], [])
def C_i_Tag : Fns := [(174, .plain, F_i_Hmac), (123, .plain, F_i_clone)]
def F_i_Tag : Fun1 := funV P_i_Tag (fun d => (T_i_Tag d.1 d.2.1).val) O_i_Tag
def Q_i_Tag : Loops := fun _ _ => .fail
theorem e_i_Tag : ∀ d, pcall ⟨lookT tys, ctrOf C_i_Tag, kindOf C_i_Tag, 3, 4⟩ 0 Q_i_Tag Try.f159 .plain (mkA P_i_Tag d) = (T_i_Tag d.1 d.2.1).run fun r => some (O_i_Tag r) := fun d => by kernel_rfl
theorem fn_i_Tag : Fn Try.prog 159 .plain F_i_Tag := fn_of (cfgOk_of mixed tys_ok (show FnsOk Try.prog C_i_Tag from ⟨fn_i_Hmac, fn_i_clone, trivial⟩)) Try.func159 (by kernel_rfl) (by kernel_rfl) (fun cx b hp hb => all_of (by kernel_rfl : loopsOf (Try.f159.body.getD .skip) = []) trivial b hb) (R := (YBs)) (T := fun (d : aden P_i_Tag) => T_i_Tag d.1 d.2.1) e_i_Tag
def P_i_Seal : List (Bool × List Sh) := [(false, [.sl 5 [.int .u8]]), (false, [.int .i64]), (false, [.sl 5 [.int .u8]]), (false, [.int .i64]), (false, [.int .i64]), (false, [.int .i64]), (false, [.sl 5 [.int .u8]])]
def O_i_Seal (r : (YFrame) × (Bool × Unit)) : List RV × List RV := ([rv (true, h_9) r.1, rv (false, [.bool]) r.2], [])
def C_i_Seal : Fns := [(123, .plain, F_i_clone), (139, .plain, F_i_isRole), (156, .plain, F_i_Sealed), (127, .plain, F_i_FrameOk), (158, .plain, F_i_HeadOf), (157, .plain, F_i_Mix), (121, .plain, F_i_TagInput), (159, .plain, F_i_Tag)]
def F_i_Seal : Fun1 := funV P_i_Seal (fun d => (T_i_Seal d.1 d.2.1 d.2.2.1 d.2.2.2.1 d.2.2.2.2.1 d.2.2.2.2.2.1 d.2.2.2.2.2.2.1).val) O_i_Seal
def Q_i_Seal : Loops := fun _ _ => .fail
theorem e_i_Seal : ∀ d, pcall ⟨lookT tys, ctrOf C_i_Seal, kindOf C_i_Seal, 3, 4⟩ 0 Q_i_Seal Try.f118 .plain (mkA P_i_Seal d) = (T_i_Seal d.1 d.2.1 d.2.2.1 d.2.2.2.1 d.2.2.2.2.1 d.2.2.2.2.2.1 d.2.2.2.2.2.2.1).run fun r => some (O_i_Seal r) := fun d => by kernel_rfl
theorem fn_i_Seal : Fn Try.prog 118 .plain F_i_Seal := fn_of (cfgOk_of mixed tys_ok (show FnsOk Try.prog C_i_Seal from ⟨fn_i_clone, fn_i_isRole, fn_i_Sealed, fn_i_FrameOk, fn_i_HeadOf, fn_i_Mix, fn_i_TagInput, fn_i_Tag, trivial⟩)) Try.func118 (by kernel_rfl) (by kernel_rfl) (fun cx b hp hb => all_of (by kernel_rfl : loopsOf (Try.f118.body.getD .skip) = []) trivial b hb) (R := (YFrame) × (Bool × Unit)) (T := fun (d : aden P_i_Seal) => T_i_Seal d.1 d.2.1 d.2.2.1 d.2.2.2.1 d.2.2.2.2.1 d.2.2.2.2.2.1 d.2.2.2.2.2.2.1) e_i_Seal
def P_i_Forge : List (Bool × List Sh) := [(false, [.sl 5 [.int .u8]]), (false, [.int .i64]), (false, [.int .i64]), (false, [.sl 5 [.int .u8]]), (false, [.int .i64]), (false, [.int .i64]), (false, [.int .i64]), (false, [.sl 5 [.int .u8]])]
def O_i_Forge (r : ((List YOp) × Unit)) : List RV × List RV := ([rv (false, [.sl 163 h_3]) r], [])
def C_i_Forge : Fns := [(118, .plain, F_i_Seal), (84, .plain, F_i_within), (120, .plain, F_i_PutN), (119, .plain, F_i_joined), (121, .plain, F_i_TagInput)]
def F_i_Forge : Fun1 := funV P_i_Forge (fun d => (T_i_Forge d.1 d.2.1 d.2.2.1 d.2.2.2.1 d.2.2.2.2.1 d.2.2.2.2.2.1 d.2.2.2.2.2.2.1 d.2.2.2.2.2.2.2.1).val) O_i_Forge
def Q_i_Forge : Loops := fun _ _ => .fail
theorem e_i_Forge : ∀ d, pcall ⟨lookT tys, ctrOf C_i_Forge, kindOf C_i_Forge, 3, 4⟩ 0 Q_i_Forge Try.f63 .plain (mkA P_i_Forge d) = (T_i_Forge d.1 d.2.1 d.2.2.1 d.2.2.2.1 d.2.2.2.2.1 d.2.2.2.2.2.1 d.2.2.2.2.2.2.1 d.2.2.2.2.2.2.2.1).run fun r => some (O_i_Forge r) := fun d => by kernel_rfl
theorem fn_i_Forge : Fn Try.prog 63 .plain F_i_Forge := fn_of (cfgOk_of mixed tys_ok (show FnsOk Try.prog C_i_Forge from ⟨fn_i_Seal, fn_i_within, fn_i_PutN, fn_i_joined, fn_i_TagInput, trivial⟩)) Try.func63 (by kernel_rfl) (by kernel_rfl) (fun cx b hp hb => all_of (by kernel_rfl : loopsOf (Try.f63.body.getD .skip) = []) trivial b hb) (R := ((List YOp) × Unit)) (T := fun (d : aden P_i_Forge) => T_i_Forge d.1 d.2.1 d.2.2.1 d.2.2.2.1 d.2.2.2.2.1 d.2.2.2.2.2.1 d.2.2.2.2.2.2.1 d.2.2.2.2.2.2.2.1) e_i_Forge
def P_l_eqByteS : List (Bool × List Sh) := [(false, [.sl 5 [.int .u8]]), (false, [.sl 5 [.int .u8]])]
def O_l_eqByteS (r : (Bool × Unit)) : List RV × List RV := ([rv (false, [.bool]) r], [])
def C_l_eqByteS : Fns := []
def F_l_eqByteS : Fun1 := funV P_l_eqByteS (fun d => (T_l_eqByteS d.1 d.2.1).val) O_l_eqByteS
def K_l_eqByteS_4 : Sk := ⟨[(0, .v false [(.sl 5 [.int .u8], .ro)]), (1, .v false [(.sl 5 [.int .u8], .ro)]), (5, .v false [(.int .i64, .nil)])], [], []⟩
def X_l_eqByteS_4 : List (Ex × Sk) := [(.ret, ⟨[(4, .v false [(.bool, .nil)])], [], []⟩), ((.exit 0), ⟨[], [], []⟩)]
def Q_l_eqByteS : Loops := fun i st => cond (Nat.beq i 4) (lam K_l_eqByteS_4 5000000 X_l_eqByteS_4 B_l_eqByteS_4 st) <| .fail
theorem lp_l_eqByteS_4 : ∀ d, bod ⟨lookT tys, ctrOf C_l_eqByteS, kindOf C_l_eqByteS, 3, 4⟩ 0 Try.f45.ntmps Q_l_eqByteS (nthLoop Try.f45 0) K_l_eqByteS_4 5000000 X_l_eqByteS_4 d = B_l_eqByteS_4 d := fun d => by kernel_rfl
theorem lo_l_eqByteS_4 (cx : Cx) (hp : cx.pin.length ≤ 0) : LoopOk Try.prog cx Try.f45.ntmps Q_l_eqByteS (nthLoop Try.f45 0) := loop_of (cfgOk_of mixed tys_ok (show FnsOk Try.prog C_l_eqByteS from trivial)) hp (all_of (by kernel_rfl : loopsOf (nthLoop Try.f45 0) = []) trivial) (by kernel_rfl) lp_l_eqByteS_4
theorem e_l_eqByteS : ∀ d, pcall ⟨lookT tys, ctrOf C_l_eqByteS, kindOf C_l_eqByteS, 3, 4⟩ 0 Q_l_eqByteS Try.f45 .plain (mkA P_l_eqByteS d) = (T_l_eqByteS d.1 d.2.1).run fun r => some (O_l_eqByteS r) := fun d => by kernel_rfl
theorem fn_l_eqByteS : Fn Try.prog 45 .plain F_l_eqByteS := fn_of (cfgOk_of mixed tys_ok (show FnsOk Try.prog C_l_eqByteS from trivial)) Try.func45 (by kernel_rfl) (by kernel_rfl) (fun cx b hp hb => all_of (by kernel_rfl : loopsOf (Try.f45.body.getD .skip) = [nthLoop Try.f45 0]) ⟨lo_l_eqByteS_4 cx hp, trivial⟩ b hb) (R := (Bool × Unit)) (T := fun (d : aden P_l_eqByteS) => T_l_eqByteS d.1 d.2.1) e_l_eqByteS
def P_l_eqOp : List (Bool × List Sh) := [(true, h_3), (true, h_3)]
def O_l_eqOp (r : (Bool × Unit)) : List RV × List RV := ([rv (false, [.bool]) r], [])
def C_l_eqOp : Fns := [(45, .plain, F_l_eqByteS)]
def F_l_eqOp : Fun1 := funV P_l_eqOp (fun d => (T_l_eqOp d.1 d.2.1).val) O_l_eqOp
def Q_l_eqOp : Loops := fun _ _ => .fail
theorem e_l_eqOp : ∀ d, pcall ⟨lookT tys, ctrOf C_l_eqOp, kindOf C_l_eqOp, 3, 4⟩ 0 Q_l_eqOp Try.f122 .plain (mkA P_l_eqOp d) = (T_l_eqOp d.1 d.2.1).run fun r => some (O_l_eqOp r) := fun d => by kernel_rfl
theorem fn_l_eqOp : Fn Try.prog 122 .plain F_l_eqOp := fn_of (cfgOk_of mixed tys_ok (show FnsOk Try.prog C_l_eqOp from ⟨fn_l_eqByteS, trivial⟩)) Try.func122 (by kernel_rfl) (by kernel_rfl) (fun cx b hp hb => all_of (by kernel_rfl : loopsOf (Try.f122.body.getD .skip) = []) trivial b hb) (R := (Bool × Unit)) (T := fun (d : aden P_l_eqOp) => T_l_eqOp d.1 d.2.1) e_l_eqOp
def P_l_eqOpS : List (Bool × List Sh) := [(false, [.sl 163 h_3]), (false, [.sl 163 h_3])]
def O_l_eqOpS (r : (Bool × Unit)) : List RV × List RV := ([rv (false, [.bool]) r], [])
def C_l_eqOpS : Fns := [(122, .plain, F_l_eqOp)]
def F_l_eqOpS : Fun1 := funV P_l_eqOpS (fun d => (T_l_eqOpS d.1 d.2.1).val) O_l_eqOpS
def K_l_eqOpS_4 : Sk := ⟨[(0, .v false [(.sl 163 h_3, .ro)]), (1, .v false [(.sl 163 h_3, .ro)]), (5, .v false [(.int .i64, .nil)])], [], []⟩
def X_l_eqOpS_4 : List (Ex × Sk) := [(.ret, ⟨[(4, .v false [(.bool, .nil)])], [], []⟩), ((.exit 0), ⟨[], [], []⟩)]
def Q_l_eqOpS : Loops := fun i st => cond (Nat.beq i 4) (lam K_l_eqOpS_4 5000000 X_l_eqOpS_4 B_l_eqOpS_4 st) <| .fail
theorem lp_l_eqOpS_4 : ∀ d, bod ⟨lookT tys, ctrOf C_l_eqOpS, kindOf C_l_eqOpS, 3, 4⟩ 0 Try.f64.ntmps Q_l_eqOpS (nthLoop Try.f64 0) K_l_eqOpS_4 5000000 X_l_eqOpS_4 d = B_l_eqOpS_4 d := fun d => by kernel_rfl
theorem lo_l_eqOpS_4 (cx : Cx) (hp : cx.pin.length ≤ 0) : LoopOk Try.prog cx Try.f64.ntmps Q_l_eqOpS (nthLoop Try.f64 0) := loop_of (cfgOk_of mixed tys_ok (show FnsOk Try.prog C_l_eqOpS from ⟨fn_l_eqOp, trivial⟩)) hp (all_of (by kernel_rfl : loopsOf (nthLoop Try.f64 0) = []) trivial) (by kernel_rfl) lp_l_eqOpS_4
theorem e_l_eqOpS : ∀ d, pcall ⟨lookT tys, ctrOf C_l_eqOpS, kindOf C_l_eqOpS, 3, 4⟩ 0 Q_l_eqOpS Try.f64 .plain (mkA P_l_eqOpS d) = (T_l_eqOpS d.1 d.2.1).run fun r => some (O_l_eqOpS r) := fun d => by kernel_rfl
theorem fn_l_eqOpS : Fn Try.prog 64 .plain F_l_eqOpS := fn_of (cfgOk_of mixed tys_ok (show FnsOk Try.prog C_l_eqOpS from ⟨fn_l_eqOp, trivial⟩)) Try.func64 (by kernel_rfl) (by kernel_rfl) (fun cx b hp hb => all_of (by kernel_rfl : loopsOf (Try.f64.body.getD .skip) = [nthLoop Try.f64 0]) ⟨lo_l_eqOpS_4 cx hp, trivial⟩ b hb) (R := (Bool × Unit)) (T := fun (d : aden P_l_eqOpS) => T_l_eqOpS d.1 d.2.1) e_l_eqOpS
def P_l_markByteS : List (Bool × List Sh) := [(false, [.sl 5 [.int .u8]]), (false, [.int .i64])]
def O_l_markByteS (r : (YI) × (YBs)) : List RV × List RV := ([rv (false, [.int .i64]) r.1], [rv (false, [.sl 5 [.int .u8]]) r.2])
def C_l_markByteS : Fns := []
def F_l_markByteS : Fun1 := funV P_l_markByteS (fun d => (T_l_markByteS d.1 d.2.1).val) O_l_markByteS
def K_l_markByteS_2 : Sk := ⟨[(0, .v false [(.sl 5 [.int .u8], (.own 3000000))]), (1, .v false [(.int .i64, .nil)]), (5, .v false [(.int .i64, .nil)])], [], [3000000]⟩
def X_l_markByteS_2 : List (Ex × Sk) := [((.exit 0), ⟨[(0, .v false [(.sl 5 [.int .u8], (.own 3000000))]), (1, .v false [(.int .i64, .nil)])], [], [3000000]⟩)]
def Q_l_markByteS : Loops := fun i st => cond (Nat.beq i 2) (lam K_l_markByteS_2 3000000 X_l_markByteS_2 B_l_markByteS_2 st) <| .fail
theorem lp_l_markByteS_2 : ∀ d, bod ⟨lookT tys, ctrOf C_l_markByteS, kindOf C_l_markByteS, 3, 4⟩ 1 Try.f65.ntmps Q_l_markByteS (nthLoop Try.f65 0) K_l_markByteS_2 3000000 X_l_markByteS_2 d = B_l_markByteS_2 d := fun d => by kernel_rfl
theorem lo_l_markByteS_2 (cx : Cx) (hp : cx.pin.length ≤ 1) : LoopOk Try.prog cx Try.f65.ntmps Q_l_markByteS (nthLoop Try.f65 0) := loop_of (cfgOk_of mixed tys_ok (show FnsOk Try.prog C_l_markByteS from trivial)) hp (all_of (by kernel_rfl : loopsOf (nthLoop Try.f65 0) = []) trivial) (by kernel_rfl) lp_l_markByteS_2
theorem e_l_markByteS : ∀ d, pcall ⟨lookT tys, ctrOf C_l_markByteS, kindOf C_l_markByteS, 3, 4⟩ 1 Q_l_markByteS Try.f65 (.lend [1]) (mkA P_l_markByteS d) = (T_l_markByteS d.1 d.2.1).run fun r => some (O_l_markByteS r) := fun d => by kernel_rfl
theorem fn_l_markByteS : Fn Try.prog 65 (.lend [1]) F_l_markByteS := fn_of (cfgOk_of mixed tys_ok (show FnsOk Try.prog C_l_markByteS from trivial)) Try.func65 (by kernel_rfl) (by kernel_rfl) (fun cx b hp hb => all_of (by kernel_rfl : loopsOf (Try.f65.body.getD .skip) = [nthLoop Try.f65 0]) ⟨lo_l_markByteS_2 cx hp, trivial⟩ b hb) (R := (YI) × (YBs)) (T := fun (d : aden P_l_markByteS) => T_l_markByteS d.1 d.2.1) e_l_markByteS
def P_l_markOpS : List (Bool × List Sh) := [(false, [.sl 163 h_3]), (false, [.int .i64])]
def O_l_markOpS (r : (YI) × ((List YOp) × Unit)) : List RV × List RV := ([rv (false, [.int .i64]) r.1], [rv (false, [.sl 163 h_3]) r.2])
def C_l_markOpS : Fns := [(65, (.lend [1]), F_l_markByteS)]
def F_l_markOpS : Fun1 := funV P_l_markOpS (fun d => (T_l_markOpS d.1 d.2.1).val) O_l_markOpS
def K_l_markOpS_2 : Sk := ⟨[(0, .v false [(.sl 163 h_3, (.own 3000000))]), (1, .v false [(.int .i64, .nil)]), (5, .v false [(.int .i64, .nil)])], [], [3000000]⟩
def X_l_markOpS_2 : List (Ex × Sk) := [((.exit 0), ⟨[(0, .v false [(.sl 163 h_3, (.own 3000000))]), (1, .v false [(.int .i64, .nil)])], [], [3000000]⟩)]
def Q_l_markOpS : Loops := fun i st => cond (Nat.beq i 2) (lam K_l_markOpS_2 3000000 X_l_markOpS_2 B_l_markOpS_2 st) <| .fail
theorem lp_l_markOpS_2 : ∀ d, bod ⟨lookT tys, ctrOf C_l_markOpS, kindOf C_l_markOpS, 3, 4⟩ 1 Try.f66.ntmps Q_l_markOpS (nthLoop Try.f66 0) K_l_markOpS_2 3000000 X_l_markOpS_2 d = B_l_markOpS_2 d := fun d => by kernel_rfl
theorem lo_l_markOpS_2 (cx : Cx) (hp : cx.pin.length ≤ 1) : LoopOk Try.prog cx Try.f66.ntmps Q_l_markOpS (nthLoop Try.f66 0) := loop_of (cfgOk_of mixed tys_ok (show FnsOk Try.prog C_l_markOpS from ⟨fn_l_markByteS, trivial⟩)) hp (all_of (by kernel_rfl : loopsOf (nthLoop Try.f66 0) = []) trivial) (by kernel_rfl) lp_l_markOpS_2
theorem e_l_markOpS : ∀ d, pcall ⟨lookT tys, ctrOf C_l_markOpS, kindOf C_l_markOpS, 3, 4⟩ 1 Q_l_markOpS Try.f66 (.lend [1]) (mkA P_l_markOpS d) = (T_l_markOpS d.1 d.2.1).run fun r => some (O_l_markOpS r) := fun d => by kernel_rfl
theorem fn_l_markOpS : Fn Try.prog 66 (.lend [1]) F_l_markOpS := fn_of (cfgOk_of mixed tys_ok (show FnsOk Try.prog C_l_markOpS from ⟨fn_l_markByteS, trivial⟩)) Try.func66 (by kernel_rfl) (by kernel_rfl) (fun cx b hp hb => all_of (by kernel_rfl : loopsOf (Try.f66.body.getD .skip) = [nthLoop Try.f66 0]) ⟨lo_l_markOpS_2 cx hp, trivial⟩ b hb) (R := (YI) × ((List YOp) × Unit)) (T := fun (d : aden P_l_markOpS) => T_l_markOpS d.1 d.2.1) e_l_markOpS
def P_l_heldByteS : List (Bool × List Sh) := [(false, [.sl 5 [.int .u8]]), (false, [.int .i64])]
def O_l_heldByteS (r : (YI)) : List RV × List RV := ([rv (false, [.int .i64]) r], [])
def C_l_heldByteS : Fns := []
def F_l_heldByteS : Fun1 := funV P_l_heldByteS (fun d => (T_l_heldByteS d.1 d.2.1).val) O_l_heldByteS
def K_l_heldByteS_2 : Sk := ⟨[(0, .v false [(.sl 5 [.int .u8], .ro)]), (1, .v false [(.int .i64, .nil)]), (5, .v false [(.int .i64, .nil)])], [], []⟩
def X_l_heldByteS_2 : List (Ex × Sk) := [(.ret, ⟨[(4, .v false [(.int .i64, .nil)])], [], []⟩), ((.exit 0), ⟨[(1, .v false [(.int .i64, .nil)])], [], []⟩)]
def Q_l_heldByteS : Loops := fun i st => cond (Nat.beq i 2) (lam K_l_heldByteS_2 3000000 X_l_heldByteS_2 B_l_heldByteS_2 st) <| .fail
theorem lp_l_heldByteS_2 : ∀ d, bod ⟨lookT tys, ctrOf C_l_heldByteS, kindOf C_l_heldByteS, 3, 4⟩ 0 Try.f69.ntmps Q_l_heldByteS (nthLoop Try.f69 0) K_l_heldByteS_2 3000000 X_l_heldByteS_2 d = B_l_heldByteS_2 d := fun d => by kernel_rfl
theorem lo_l_heldByteS_2 (cx : Cx) (hp : cx.pin.length ≤ 0) : LoopOk Try.prog cx Try.f69.ntmps Q_l_heldByteS (nthLoop Try.f69 0) := loop_of (cfgOk_of mixed tys_ok (show FnsOk Try.prog C_l_heldByteS from trivial)) hp (all_of (by kernel_rfl : loopsOf (nthLoop Try.f69 0) = []) trivial) (by kernel_rfl) lp_l_heldByteS_2
theorem e_l_heldByteS : ∀ d, pcall ⟨lookT tys, ctrOf C_l_heldByteS, kindOf C_l_heldByteS, 3, 4⟩ 0 Q_l_heldByteS Try.f69 .plain (mkA P_l_heldByteS d) = (T_l_heldByteS d.1 d.2.1).run fun r => some (O_l_heldByteS r) := fun d => by kernel_rfl
theorem fn_l_heldByteS : Fn Try.prog 69 .plain F_l_heldByteS := fn_of (cfgOk_of mixed tys_ok (show FnsOk Try.prog C_l_heldByteS from trivial)) Try.func69 (by kernel_rfl) (by kernel_rfl) (fun cx b hp hb => all_of (by kernel_rfl : loopsOf (Try.f69.body.getD .skip) = [nthLoop Try.f69 0]) ⟨lo_l_heldByteS_2 cx hp, trivial⟩ b hb) (R := (YI)) (T := fun (d : aden P_l_heldByteS) => T_l_heldByteS d.1 d.2.1) e_l_heldByteS
def P_l_heldOpS : List (Bool × List Sh) := [(false, [.sl 163 h_3]), (false, [.int .i64])]
def O_l_heldOpS (r : (YI)) : List RV × List RV := ([rv (false, [.int .i64]) r], [])
def C_l_heldOpS : Fns := [(69, .plain, F_l_heldByteS)]
def F_l_heldOpS : Fun1 := funV P_l_heldOpS (fun d => (T_l_heldOpS d.1 d.2.1).val) O_l_heldOpS
def K_l_heldOpS_2 : Sk := ⟨[(0, .v false [(.sl 163 h_3, .ro)]), (1, .v false [(.int .i64, .nil)]), (5, .v false [(.int .i64, .nil)])], [], []⟩
def X_l_heldOpS_2 : List (Ex × Sk) := [(.ret, ⟨[(4, .v false [(.int .i64, .nil)])], [], []⟩), ((.exit 0), ⟨[(1, .v false [(.int .i64, .nil)])], [], []⟩)]
def Q_l_heldOpS : Loops := fun i st => cond (Nat.beq i 2) (lam K_l_heldOpS_2 3000000 X_l_heldOpS_2 B_l_heldOpS_2 st) <| .fail
theorem lp_l_heldOpS_2 : ∀ d, bod ⟨lookT tys, ctrOf C_l_heldOpS, kindOf C_l_heldOpS, 3, 4⟩ 0 Try.f67.ntmps Q_l_heldOpS (nthLoop Try.f67 0) K_l_heldOpS_2 3000000 X_l_heldOpS_2 d = B_l_heldOpS_2 d := fun d => by kernel_rfl
theorem lo_l_heldOpS_2 (cx : Cx) (hp : cx.pin.length ≤ 0) : LoopOk Try.prog cx Try.f67.ntmps Q_l_heldOpS (nthLoop Try.f67 0) := loop_of (cfgOk_of mixed tys_ok (show FnsOk Try.prog C_l_heldOpS from ⟨fn_l_heldByteS, trivial⟩)) hp (all_of (by kernel_rfl : loopsOf (nthLoop Try.f67 0) = []) trivial) (by kernel_rfl) lp_l_heldOpS_2
theorem e_l_heldOpS : ∀ d, pcall ⟨lookT tys, ctrOf C_l_heldOpS, kindOf C_l_heldOpS, 3, 4⟩ 0 Q_l_heldOpS Try.f67 .plain (mkA P_l_heldOpS d) = (T_l_heldOpS d.1 d.2.1).run fun r => some (O_l_heldOpS r) := fun d => by kernel_rfl
theorem fn_l_heldOpS : Fn Try.prog 67 .plain F_l_heldOpS := fn_of (cfgOk_of mixed tys_ok (show FnsOk Try.prog C_l_heldOpS from ⟨fn_l_heldByteS, trivial⟩)) Try.func67 (by kernel_rfl) (by kernel_rfl) (fun cx b hp hb => all_of (by kernel_rfl : loopsOf (Try.f67.body.getD .skip) = [nthLoop Try.f67 0]) ⟨lo_l_heldOpS_2 cx hp, trivial⟩ b hb) (R := (YI)) (T := fun (d : aden P_l_heldOpS) => T_l_heldOpS d.1 d.2.1) e_l_heldOpS
def P_l_FnExactForge : List (Bool × List Sh) := [(false, [.sl 5 [.int .u8]]), (false, [.int .i64]), (false, [.int .i64]), (false, [.sl 5 [.int .u8]]), (false, [.int .i64]), (false, [.int .i64]), (false, [.int .i64]), (false, [.sl 5 [.int .u8]])]
def O_l_FnExactForge (r : (Bool × Unit)) : List RV × List RV := ([rv (false, [.bool]) r], [])
def C_l_FnExactForge : Fns := [(43, .plain, F_l_toByteS), (62, .plain, F_s_Forge), (63, .plain, F_i_Forge), (64, .plain, F_l_eqOpS), (45, .plain, F_l_eqByteS), (65, (.lend [1]), F_l_markByteS), (66, (.lend [1]), F_l_markOpS), (67, .plain, F_l_heldOpS)]
def F_l_FnExactForge : Fun1 := funV P_l_FnExactForge (fun d => (T_l_FnExactForge d.1 d.2.1 d.2.2.1 d.2.2.2.1 d.2.2.2.2.1 d.2.2.2.2.2.1 d.2.2.2.2.2.2.1 d.2.2.2.2.2.2.2.1).val) O_l_FnExactForge
def Q_l_FnExactForge : Loops := fun _ _ => .fail
theorem e_l_FnExactForge : ∀ d, pcall ⟨lookT tys, ctrOf C_l_FnExactForge, kindOf C_l_FnExactForge, 3, 4⟩ 0 Q_l_FnExactForge Try.f13 .plain (mkA P_l_FnExactForge d) = (T_l_FnExactForge d.1 d.2.1 d.2.2.1 d.2.2.2.1 d.2.2.2.2.1 d.2.2.2.2.2.1 d.2.2.2.2.2.2.1 d.2.2.2.2.2.2.2.1).run fun r => some (O_l_FnExactForge r) := fun d => by kernel_rfl
theorem fn_l_FnExactForge : Fn Try.prog 13 .plain F_l_FnExactForge := fn_of (cfgOk_of mixed tys_ok (show FnsOk Try.prog C_l_FnExactForge from ⟨fn_l_toByteS, fn_s_Forge, fn_i_Forge, fn_l_eqOpS, fn_l_eqByteS, fn_l_markByteS, fn_l_markOpS, fn_l_heldOpS, trivial⟩)) Try.func13 (by kernel_rfl) (by kernel_rfl) (fun cx b hp hb => all_of (by kernel_rfl : loopsOf (Try.f13.body.getD .skip) = []) trivial b hb) (R := (Bool × Unit)) (T := fun (d : aden P_l_FnExactForge) => T_l_FnExactForge d.1 d.2.1 d.2.2.1 d.2.2.2.1 d.2.2.2.2.1 d.2.2.2.2.2.1 d.2.2.2.2.2.2.1 d.2.2.2.2.2.2.2.1) e_l_FnExactForge
end
end Go.Proofs.Ythcbhopanefaiaa

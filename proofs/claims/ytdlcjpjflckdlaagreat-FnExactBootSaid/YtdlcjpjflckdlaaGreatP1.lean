/-
  That the functions of the seat answer what the terms of text W say; nothing is assumed.
-/
import Derived.Test.YtdlcjpjflckdlaaGreatP0
namespace Go.Proofs.YtdlcjpjflckdlaaGreat
open Go.RowKit
set_option linter.unusedVariables false
set_option maxRecDepth 100000
set_option maxHeartbeats 4000000
noncomputable section
def P_l_markDice : List (Bool × List Sh) := [(true, [.sl 5 [.int .u8], .int .i64]), (false, [.int .i64])]
def O_l_markDice (r : (YI) × (YDice)) : List RV × List RV := ([rv (false, [.int .i64]) r.1], [rv (true, [.sl 5 [.int .u8], .int .i64]) r.2])
def C_l_markDice : Fns := [(31, (.lend [1]), F_l_markByteS)]
def F_l_markDice : Fun1 := funV P_l_markDice (fun d => (T_l_markDice d.1 d.2.1).val) O_l_markDice
def Q_l_markDice : Loops := fun _ _ => .fail
theorem e_l_markDice : ∀ d, pcall ⟨lookT tys, ctrOf C_l_markDice, kindOf C_l_markDice, 3, 4⟩ 1 Q_l_markDice Tryz.f89 (.lend [1]) (mkA P_l_markDice d) = (T_l_markDice d.1 d.2.1).run fun r => some (O_l_markDice r) := fun d => by kernel_rfl
theorem fn_l_markDice : Fn Tryz.prog 89 (.lend [1]) F_l_markDice := fn_of (cfgOk_of mixed tys_ok (show FnsOk Tryz.prog C_l_markDice from ⟨fn_l_markByteS, trivial⟩)) Tryz.func89 (by kernel_rfl) (by kernel_rfl) (fun cx b hp hb => all_of (by kernel_rfl : loopsOf (Tryz.f89.body.getD .skip) = []) trivial b hb) (R := (YI) × (YDice)) (T := fun (d : aden P_l_markDice) => T_l_markDice d.1 d.2.1) e_l_markDice
def P_l_markIntS : List (Bool × List Sh) := [(false, [.sl 3 [.int .i64]]), (false, [.int .i64])]
def O_l_markIntS (r : (YI) × ((List YI) × Unit)) : List RV × List RV := ([rv (false, [.int .i64]) r.1], [rv (false, [.sl 3 [.int .i64]]) r.2])
def C_l_markIntS : Fns := []
def F_l_markIntS : Fun1 := funV P_l_markIntS (fun d => (T_l_markIntS d.1 d.2.1).val) O_l_markIntS
def K_l_markIntS_2 : Sk := ⟨[(0, .v false [(.sl 3 [.int .i64], (.own 3000000))]), (1, .v false [(.int .i64, .nil)]), (5, .v false [(.int .i64, .nil)])], [], [3000000]⟩
def X_l_markIntS_2 : List (Ex × Sk) := [((.exit 0), ⟨[(0, .v false [(.sl 3 [.int .i64], (.own 3000000))]), (1, .v false [(.int .i64, .nil)])], [], [3000000]⟩)]
def Q_l_markIntS : Loops := fun i st => cond (Nat.beq i 2) (lam K_l_markIntS_2 3000000 X_l_markIntS_2 B_l_markIntS_2 st) <| .fail
theorem lp_l_markIntS_2 : ∀ d, bod ⟨lookT tys, ctrOf C_l_markIntS, kindOf C_l_markIntS, 3, 4⟩ 1 Tryz.f262.ntmps Q_l_markIntS (nthLoop Tryz.f262 0) K_l_markIntS_2 3000000 X_l_markIntS_2 d = B_l_markIntS_2 d := fun d => by kernel_rfl
theorem lo_l_markIntS_2 (cx : Cx) (hp : cx.pin.length ≤ 1) : LoopOk Tryz.prog cx Tryz.f262.ntmps Q_l_markIntS (nthLoop Tryz.f262 0) := loop_of (cfgOk_of mixed tys_ok (show FnsOk Tryz.prog C_l_markIntS from trivial)) hp (all_of (by kernel_rfl : loopsOf (nthLoop Tryz.f262 0) = []) trivial) (by kernel_rfl) lp_l_markIntS_2
theorem e_l_markIntS : ∀ d, pcall ⟨lookT tys, ctrOf C_l_markIntS, kindOf C_l_markIntS, 3, 4⟩ 1 Q_l_markIntS Tryz.f262 (.lend [1]) (mkA P_l_markIntS d) = (T_l_markIntS d.1 d.2.1).run fun r => some (O_l_markIntS r) := fun d => by kernel_rfl
theorem fn_l_markIntS : Fn Tryz.prog 262 (.lend [1]) F_l_markIntS := fn_of (cfgOk_of mixed tys_ok (show FnsOk Tryz.prog C_l_markIntS from trivial)) Tryz.func262 (by kernel_rfl) (by kernel_rfl) (fun cx b hp hb => all_of (by kernel_rfl : loopsOf (Tryz.f262.body.getD .skip) = [nthLoop Tryz.f262 0]) ⟨lo_l_markIntS_2 cx hp, trivial⟩ b hb) (R := (YI) × ((List YI) × Unit)) (T := fun (d : aden P_l_markIntS) => T_l_markIntS d.1 d.2.1) e_l_markIntS
def P_l_markCandS : List (Bool × List Sh) := [(false, [.sl 274 h_4]), (false, [.int .i64])]
def O_l_markCandS (r : (YI) × ((List YCand) × Unit)) : List RV × List RV := ([rv (false, [.int .i64]) r.1], [rv (false, [.sl 274 h_4]) r.2])
def C_l_markCandS : Fns := [(31, (.lend [1]), F_l_markByteS)]
def F_l_markCandS : Fun1 := funV P_l_markCandS (fun d => (T_l_markCandS d.1 d.2.1).val) O_l_markCandS
def K_l_markCandS_2 : Sk := ⟨[(0, .v false [(.sl 274 h_4, (.own 3000000))]), (1, .v false [(.int .i64, .nil)]), (5, .v false [(.int .i64, .nil)])], [], [3000000]⟩
def X_l_markCandS_2 : List (Ex × Sk) := [((.exit 0), ⟨[(0, .v false [(.sl 274 h_4, (.own 3000000))]), (1, .v false [(.int .i64, .nil)])], [], [3000000]⟩)]
def Q_l_markCandS : Loops := fun i st => cond (Nat.beq i 2) (lam K_l_markCandS_2 3000000 X_l_markCandS_2 B_l_markCandS_2 st) <| .fail
theorem lp_l_markCandS_2 : ∀ d, bod ⟨lookT tys, ctrOf C_l_markCandS, kindOf C_l_markCandS, 3, 4⟩ 1 Tryz.f226.ntmps Q_l_markCandS (nthLoop Tryz.f226 0) K_l_markCandS_2 3000000 X_l_markCandS_2 d = B_l_markCandS_2 d := fun d => by kernel_rfl
theorem lo_l_markCandS_2 (cx : Cx) (hp : cx.pin.length ≤ 1) : LoopOk Tryz.prog cx Tryz.f226.ntmps Q_l_markCandS (nthLoop Tryz.f226 0) := loop_of (cfgOk_of mixed tys_ok (show FnsOk Tryz.prog C_l_markCandS from ⟨fn_l_markByteS, trivial⟩)) hp (all_of (by kernel_rfl : loopsOf (nthLoop Tryz.f226 0) = []) trivial) (by kernel_rfl) lp_l_markCandS_2
theorem e_l_markCandS : ∀ d, pcall ⟨lookT tys, ctrOf C_l_markCandS, kindOf C_l_markCandS, 3, 4⟩ 1 Q_l_markCandS Tryz.f226 (.lend [1]) (mkA P_l_markCandS d) = (T_l_markCandS d.1 d.2.1).run fun r => some (O_l_markCandS r) := fun d => by kernel_rfl
theorem fn_l_markCandS : Fn Tryz.prog 226 (.lend [1]) F_l_markCandS := fn_of (cfgOk_of mixed tys_ok (show FnsOk Tryz.prog C_l_markCandS from ⟨fn_l_markByteS, trivial⟩)) Tryz.func226 (by kernel_rfl) (by kernel_rfl) (fun cx b hp hb => all_of (by kernel_rfl : loopsOf (Tryz.f226.body.getD .skip) = [nthLoop Tryz.f226 0]) ⟨lo_l_markCandS_2 cx hp, trivial⟩ b hb) (R := (YI) × ((List YCand) × Unit)) (T := fun (d : aden P_l_markCandS) => T_l_markCandS d.1 d.2.1) e_l_markCandS
def P_l_markSessS : List (Bool × List Sh) := [(false, [.sl 100 h_13]), (false, [.int .i64])]
def O_l_markSessS (r : (YI) × ((List YSess) × Unit)) : List RV × List RV := ([rv (false, [.int .i64]) r.1], [rv (false, [.sl 100 h_13]) r.2])
def C_l_markSessS : Fns := [(31, (.lend [1]), F_l_markByteS), (262, (.lend [1]), F_l_markIntS), (226, (.lend [1]), F_l_markCandS)]
def F_l_markSessS : Fun1 := funV P_l_markSessS (fun d => (T_l_markSessS d.1 d.2.1).val) O_l_markSessS
def K_l_markSessS_2 : Sk := ⟨[(0, .v false [(.sl 100 h_13, (.own 3000000))]), (1, .v false [(.int .i64, .nil)]), (5, .v false [(.int .i64, .nil)])], [], [3000000]⟩
def X_l_markSessS_2 : List (Ex × Sk) := [((.exit 0), ⟨[(0, .v false [(.sl 100 h_13, (.own 3000000))]), (1, .v false [(.int .i64, .nil)])], [], [3000000]⟩)]
def Q_l_markSessS : Loops := fun i st => cond (Nat.beq i 2) (lam K_l_markSessS_2 3000000 X_l_markSessS_2 B_l_markSessS_2 st) <| .fail
theorem lp_l_markSessS_2 : ∀ d, bod ⟨lookT tys, ctrOf C_l_markSessS, kindOf C_l_markSessS, 3, 4⟩ 1 Tryz.f193.ntmps Q_l_markSessS (nthLoop Tryz.f193 0) K_l_markSessS_2 3000000 X_l_markSessS_2 d = B_l_markSessS_2 d := fun d => by kernel_rfl
theorem lo_l_markSessS_2 (cx : Cx) (hp : cx.pin.length ≤ 1) : LoopOk Tryz.prog cx Tryz.f193.ntmps Q_l_markSessS (nthLoop Tryz.f193 0) := loop_of (cfgOk_of mixed tys_ok (show FnsOk Tryz.prog C_l_markSessS from ⟨fn_l_markByteS, fn_l_markIntS, fn_l_markCandS, trivial⟩)) hp (all_of (by kernel_rfl : loopsOf (nthLoop Tryz.f193 0) = []) trivial) (by kernel_rfl) lp_l_markSessS_2
theorem e_l_markSessS : ∀ d, pcall ⟨lookT tys, ctrOf C_l_markSessS, kindOf C_l_markSessS, 3, 4⟩ 1 Q_l_markSessS Tryz.f193 (.lend [1]) (mkA P_l_markSessS d) = (T_l_markSessS d.1 d.2.1).run fun r => some (O_l_markSessS r) := fun d => by kernel_rfl
theorem fn_l_markSessS : Fn Tryz.prog 193 (.lend [1]) F_l_markSessS := fn_of (cfgOk_of mixed tys_ok (show FnsOk Tryz.prog C_l_markSessS from ⟨fn_l_markByteS, fn_l_markIntS, fn_l_markCandS, trivial⟩)) Tryz.func193 (by kernel_rfl) (by kernel_rfl) (fun cx b hp hb => all_of (by kernel_rfl : loopsOf (Tryz.f193.body.getD .skip) = [nthLoop Tryz.f193 0]) ⟨lo_l_markSessS_2 cx hp, trivial⟩ b hb) (R := (YI) × ((List YSess) × Unit)) (T := fun (d : aden P_l_markSessS) => T_l_markSessS d.1 d.2.1) e_l_markSessS
def P_l_markTab : List (Bool × List Sh) := [(true, [.int .i64, .sl 100 h_13]), (false, [.int .i64])]
def O_l_markTab (r : (YI) × (YTab)) : List RV × List RV := ([rv (false, [.int .i64]) r.1], [rv (true, [.int .i64, .sl 100 h_13]) r.2])
def C_l_markTab : Fns := [(193, (.lend [1]), F_l_markSessS)]
def F_l_markTab : Fun1 := funV P_l_markTab (fun d => (T_l_markTab d.1 d.2.1).val) O_l_markTab
def Q_l_markTab : Loops := fun _ _ => .fail
theorem e_l_markTab : ∀ d, pcall ⟨lookT tys, ctrOf C_l_markTab, kindOf C_l_markTab, 3, 4⟩ 1 Q_l_markTab Tryz.f90 (.lend [1]) (mkA P_l_markTab d) = (T_l_markTab d.1 d.2.1).run fun r => some (O_l_markTab r) := fun d => by kernel_rfl
theorem fn_l_markTab : Fn Tryz.prog 90 (.lend [1]) F_l_markTab := fn_of (cfgOk_of mixed tys_ok (show FnsOk Tryz.prog C_l_markTab from ⟨fn_l_markSessS, trivial⟩)) Tryz.func90 (by kernel_rfl) (by kernel_rfl) (fun cx b hp hb => all_of (by kernel_rfl : loopsOf (Tryz.f90.body.getD .skip) = []) trivial b hb) (R := (YI) × (YTab)) (T := fun (d : aden P_l_markTab) => T_l_markTab d.1 d.2.1) e_l_markTab
def P_l_markCreditS : List (Bool × List Sh) := [(false, [.sl 218 h_2]), (false, [.int .i64])]
def O_l_markCreditS (r : (YI) × ((List YCredit) × Unit)) : List RV × List RV := ([rv (false, [.int .i64]) r.1], [rv (false, [.sl 218 h_2]) r.2])
def C_l_markCreditS : Fns := []
def F_l_markCreditS : Fun1 := funV P_l_markCreditS (fun d => (T_l_markCreditS d.1 d.2.1).val) O_l_markCreditS
def K_l_markCreditS_2 : Sk := ⟨[(0, .v false [(.sl 218 h_2, (.own 3000000))]), (1, .v false [(.int .i64, .nil)]), (5, .v false [(.int .i64, .nil)])], [], [3000000]⟩
def X_l_markCreditS_2 : List (Ex × Sk) := [((.exit 0), ⟨[(0, .v false [(.sl 218 h_2, (.own 3000000))]), (1, .v false [(.int .i64, .nil)])], [], [3000000]⟩)]
def Q_l_markCreditS : Loops := fun i st => cond (Nat.beq i 2) (lam K_l_markCreditS_2 3000000 X_l_markCreditS_2 B_l_markCreditS_2 st) <| .fail
theorem lp_l_markCreditS_2 : ∀ d, bod ⟨lookT tys, ctrOf C_l_markCreditS, kindOf C_l_markCreditS, 3, 4⟩ 1 Tryz.f91.ntmps Q_l_markCreditS (nthLoop Tryz.f91 0) K_l_markCreditS_2 3000000 X_l_markCreditS_2 d = B_l_markCreditS_2 d := fun d => by kernel_rfl
theorem lo_l_markCreditS_2 (cx : Cx) (hp : cx.pin.length ≤ 1) : LoopOk Tryz.prog cx Tryz.f91.ntmps Q_l_markCreditS (nthLoop Tryz.f91 0) := loop_of (cfgOk_of mixed tys_ok (show FnsOk Tryz.prog C_l_markCreditS from trivial)) hp (all_of (by kernel_rfl : loopsOf (nthLoop Tryz.f91 0) = []) trivial) (by kernel_rfl) lp_l_markCreditS_2
theorem e_l_markCreditS : ∀ d, pcall ⟨lookT tys, ctrOf C_l_markCreditS, kindOf C_l_markCreditS, 3, 4⟩ 1 Q_l_markCreditS Tryz.f91 (.lend [1]) (mkA P_l_markCreditS d) = (T_l_markCreditS d.1 d.2.1).run fun r => some (O_l_markCreditS r) := fun d => by kernel_rfl
theorem fn_l_markCreditS : Fn Tryz.prog 91 (.lend [1]) F_l_markCreditS := fn_of (cfgOk_of mixed tys_ok (show FnsOk Tryz.prog C_l_markCreditS from trivial)) Tryz.func91 (by kernel_rfl) (by kernel_rfl) (fun cx b hp hb => all_of (by kernel_rfl : loopsOf (Tryz.f91.body.getD .skip) = [nthLoop Tryz.f91 0]) ⟨lo_l_markCreditS_2 cx hp, trivial⟩ b hb) (R := (YI) × ((List YCredit) × Unit)) (T := fun (d : aden P_l_markCreditS) => T_l_markCreditS d.1 d.2.1) e_l_markCreditS
def P_l_markServer : List (Bool × List Sh) := [(true, h_15), (false, [.int .i64])]
def O_l_markServer (r : (YI) × (YServer)) : List RV × List RV := ([rv (false, [.int .i64]) r.1], [rv (true, h_15) r.2])
def C_l_markServer : Fns := [(87, (.lend [1]), F_l_markByteSS), (88, (.lend [1]), F_l_markJar), (89, (.lend [1]), F_l_markDice), (90, (.lend [1]), F_l_markTab), (91, (.lend [1]), F_l_markCreditS)]
def F_l_markServer : Fun1 := funV P_l_markServer (fun d => (T_l_markServer d.1 d.2.1).val) O_l_markServer
def Q_l_markServer : Loops := fun _ _ => .fail
theorem e_l_markServer : ∀ d, pcall ⟨lookT tys, ctrOf C_l_markServer, kindOf C_l_markServer, 3, 4⟩ 1 Q_l_markServer Tryz.f18 (.lend [1]) (mkA P_l_markServer d) = (T_l_markServer d.1 d.2.1).run fun r => some (O_l_markServer r) := fun d => by kernel_rfl
theorem fn_l_markServer : Fn Tryz.prog 18 (.lend [1]) F_l_markServer := fn_of (cfgOk_of mixed tys_ok (show FnsOk Tryz.prog C_l_markServer from ⟨fn_l_markByteSS, fn_l_markJar, fn_l_markDice, fn_l_markTab, fn_l_markCreditS, trivial⟩)) Tryz.func18 (by kernel_rfl) (by kernel_rfl) (fun cx b hp hb => all_of (by kernel_rfl : loopsOf (Tryz.f18.body.getD .skip) = []) trivial b hb) (R := (YI) × (YServer)) (T := fun (d : aden P_l_markServer) => T_l_markServer d.1 d.2.1) e_l_markServer
def P_l_markNoteS : List (Bool × List Sh) := [(false, [.sl 139 h_8]), (false, [.int .i64])]
def O_l_markNoteS (r : (YI) × ((List YNote) × Unit)) : List RV × List RV := ([rv (false, [.int .i64]) r.1], [rv (false, [.sl 139 h_8]) r.2])
def C_l_markNoteS : Fns := [(31, (.lend [1]), F_l_markByteS)]
def F_l_markNoteS : Fun1 := funV P_l_markNoteS (fun d => (T_l_markNoteS d.1 d.2.1).val) O_l_markNoteS
def K_l_markNoteS_2 : Sk := ⟨[(0, .v false [(.sl 139 h_8, (.own 3000000))]), (1, .v false [(.int .i64, .nil)]), (5, .v false [(.int .i64, .nil)])], [], [3000000]⟩
def X_l_markNoteS_2 : List (Ex × Sk) := [((.exit 0), ⟨[(0, .v false [(.sl 139 h_8, (.own 3000000))]), (1, .v false [(.int .i64, .nil)])], [], [3000000]⟩)]
def Q_l_markNoteS : Loops := fun i st => cond (Nat.beq i 2) (lam K_l_markNoteS_2 3000000 X_l_markNoteS_2 B_l_markNoteS_2 st) <| .fail
theorem lp_l_markNoteS_2 : ∀ d, bod ⟨lookT tys, ctrOf C_l_markNoteS, kindOf C_l_markNoteS, 3, 4⟩ 1 Tryz.f19.ntmps Q_l_markNoteS (nthLoop Tryz.f19 0) K_l_markNoteS_2 3000000 X_l_markNoteS_2 d = B_l_markNoteS_2 d := fun d => by kernel_rfl
theorem lo_l_markNoteS_2 (cx : Cx) (hp : cx.pin.length ≤ 1) : LoopOk Tryz.prog cx Tryz.f19.ntmps Q_l_markNoteS (nthLoop Tryz.f19 0) := loop_of (cfgOk_of mixed tys_ok (show FnsOk Tryz.prog C_l_markNoteS from ⟨fn_l_markByteS, trivial⟩)) hp (all_of (by kernel_rfl : loopsOf (nthLoop Tryz.f19 0) = []) trivial) (by kernel_rfl) lp_l_markNoteS_2
theorem e_l_markNoteS : ∀ d, pcall ⟨lookT tys, ctrOf C_l_markNoteS, kindOf C_l_markNoteS, 3, 4⟩ 1 Q_l_markNoteS Tryz.f19 (.lend [1]) (mkA P_l_markNoteS d) = (T_l_markNoteS d.1 d.2.1).run fun r => some (O_l_markNoteS r) := fun d => by kernel_rfl
theorem fn_l_markNoteS : Fn Tryz.prog 19 (.lend [1]) F_l_markNoteS := fn_of (cfgOk_of mixed tys_ok (show FnsOk Tryz.prog C_l_markNoteS from ⟨fn_l_markByteS, trivial⟩)) Tryz.func19 (by kernel_rfl) (by kernel_rfl) (fun cx b hp hb => all_of (by kernel_rfl : loopsOf (Tryz.f19.body.getD .skip) = [nthLoop Tryz.f19 0]) ⟨lo_l_markNoteS_2 cx hp, trivial⟩ b hb) (R := (YI) × ((List YNote) × Unit)) (T := fun (d : aden P_l_markNoteS) => T_l_markNoteS d.1 d.2.1) e_l_markNoteS
def P_l_heldByteS : List (Bool × List Sh) := [(false, [.sl 5 [.int .u8]]), (false, [.int .i64])]
def O_l_heldByteS (r : (YI)) : List RV × List RV := ([rv (false, [.int .i64]) r], [])
def C_l_heldByteS : Fns := []
def F_l_heldByteS : Fun1 := funV P_l_heldByteS (fun d => (T_l_heldByteS d.1 d.2.1).val) O_l_heldByteS
def K_l_heldByteS_2 : Sk := ⟨[(0, .v false [(.sl 5 [.int .u8], .ro)]), (1, .v false [(.int .i64, .nil)]), (5, .v false [(.int .i64, .nil)])], [], []⟩
def X_l_heldByteS_2 : List (Ex × Sk) := [(.ret, ⟨[(4, .v false [(.int .i64, .nil)])], [], []⟩), ((.exit 0), ⟨[(1, .v false [(.int .i64, .nil)])], [], []⟩)]
def Q_l_heldByteS : Loops := fun i st => cond (Nat.beq i 2) (lam K_l_heldByteS_2 3000000 X_l_heldByteS_2 B_l_heldByteS_2 st) <| .fail
theorem lp_l_heldByteS_2 : ∀ d, bod ⟨lookT tys, ctrOf C_l_heldByteS, kindOf C_l_heldByteS, 3, 4⟩ 0 Tryz.f97.ntmps Q_l_heldByteS (nthLoop Tryz.f97 0) K_l_heldByteS_2 3000000 X_l_heldByteS_2 d = B_l_heldByteS_2 d := fun d => by kernel_rfl
theorem lo_l_heldByteS_2 (cx : Cx) (hp : cx.pin.length ≤ 0) : LoopOk Tryz.prog cx Tryz.f97.ntmps Q_l_heldByteS (nthLoop Tryz.f97 0) := loop_of (cfgOk_of mixed tys_ok (show FnsOk Tryz.prog C_l_heldByteS from trivial)) hp (all_of (by kernel_rfl : loopsOf (nthLoop Tryz.f97 0) = []) trivial) (by kernel_rfl) lp_l_heldByteS_2
theorem e_l_heldByteS : ∀ d, pcall ⟨lookT tys, ctrOf C_l_heldByteS, kindOf C_l_heldByteS, 3, 4⟩ 0 Q_l_heldByteS Tryz.f97 .plain (mkA P_l_heldByteS d) = (T_l_heldByteS d.1 d.2.1).run fun r => some (O_l_heldByteS r) := fun d => by kernel_rfl
theorem fn_l_heldByteS : Fn Tryz.prog 97 .plain F_l_heldByteS := fn_of (cfgOk_of mixed tys_ok (show FnsOk Tryz.prog C_l_heldByteS from trivial)) Tryz.func97 (by kernel_rfl) (by kernel_rfl) (fun cx b hp hb => all_of (by kernel_rfl : loopsOf (Tryz.f97.body.getD .skip) = [nthLoop Tryz.f97 0]) ⟨lo_l_heldByteS_2 cx hp, trivial⟩ b hb) (R := (YI)) (T := fun (d : aden P_l_heldByteS) => T_l_heldByteS d.1 d.2.1) e_l_heldByteS
def P_l_heldByteSS : List (Bool × List Sh) := [(false, [.sl 23 [.sl 5 [.int .u8]]]), (false, [.int .i64])]
def O_l_heldByteSS (r : (YI)) : List RV × List RV := ([rv (false, [.int .i64]) r], [])
def C_l_heldByteSS : Fns := [(97, .plain, F_l_heldByteS)]
def F_l_heldByteSS : Fun1 := funV P_l_heldByteSS (fun d => (T_l_heldByteSS d.1 d.2.1).val) O_l_heldByteSS
def K_l_heldByteSS_2 : Sk := ⟨[(0, .v false [(.sl 23 [.sl 5 [.int .u8]], .ro)]), (1, .v false [(.int .i64, .nil)]), (5, .v false [(.int .i64, .nil)])], [], []⟩
def X_l_heldByteSS_2 : List (Ex × Sk) := [(.ret, ⟨[(4, .v false [(.int .i64, .nil)])], [], []⟩), ((.exit 0), ⟨[(1, .v false [(.int .i64, .nil)])], [], []⟩)]
def Q_l_heldByteSS : Loops := fun i st => cond (Nat.beq i 2) (lam K_l_heldByteSS_2 3000000 X_l_heldByteSS_2 B_l_heldByteSS_2 st) <| .fail
theorem lp_l_heldByteSS_2 : ∀ d, bod ⟨lookT tys, ctrOf C_l_heldByteSS, kindOf C_l_heldByteSS, 3, 4⟩ 0 Tryz.f92.ntmps Q_l_heldByteSS (nthLoop Tryz.f92 0) K_l_heldByteSS_2 3000000 X_l_heldByteSS_2 d = B_l_heldByteSS_2 d := fun d => by kernel_rfl
theorem lo_l_heldByteSS_2 (cx : Cx) (hp : cx.pin.length ≤ 0) : LoopOk Tryz.prog cx Tryz.f92.ntmps Q_l_heldByteSS (nthLoop Tryz.f92 0) := loop_of (cfgOk_of mixed tys_ok (show FnsOk Tryz.prog C_l_heldByteSS from ⟨fn_l_heldByteS, trivial⟩)) hp (all_of (by kernel_rfl : loopsOf (nthLoop Tryz.f92 0) = []) trivial) (by kernel_rfl) lp_l_heldByteSS_2
theorem e_l_heldByteSS : ∀ d, pcall ⟨lookT tys, ctrOf C_l_heldByteSS, kindOf C_l_heldByteSS, 3, 4⟩ 0 Q_l_heldByteSS Tryz.f92 .plain (mkA P_l_heldByteSS d) = (T_l_heldByteSS d.1 d.2.1).run fun r => some (O_l_heldByteSS r) := fun d => by kernel_rfl
theorem fn_l_heldByteSS : Fn Tryz.prog 92 .plain F_l_heldByteSS := fn_of (cfgOk_of mixed tys_ok (show FnsOk Tryz.prog C_l_heldByteSS from ⟨fn_l_heldByteS, trivial⟩)) Tryz.func92 (by kernel_rfl) (by kernel_rfl) (fun cx b hp hb => all_of (by kernel_rfl : loopsOf (Tryz.f92.body.getD .skip) = [nthLoop Tryz.f92 0]) ⟨lo_l_heldByteSS_2 cx hp, trivial⟩ b hb) (R := (YI)) (T := fun (d : aden P_l_heldByteSS) => T_l_heldByteSS d.1 d.2.1) e_l_heldByteSS
def P_l_heldJar : List (Bool × List Sh) := [(true, [.sl 5 [.int .u8]]), (false, [.int .i64])]
def O_l_heldJar (r : (YI)) : List RV × List RV := ([rv (false, [.int .i64]) r], [])
def C_l_heldJar : Fns := [(97, .plain, F_l_heldByteS)]
def F_l_heldJar : Fun1 := funV P_l_heldJar (fun d => (T_l_heldJar d.1 d.2.1).val) O_l_heldJar
def Q_l_heldJar : Loops := fun _ _ => .fail
theorem e_l_heldJar : ∀ d, pcall ⟨lookT tys, ctrOf C_l_heldJar, kindOf C_l_heldJar, 3, 4⟩ 0 Q_l_heldJar Tryz.f93 .plain (mkA P_l_heldJar d) = (T_l_heldJar d.1 d.2.1).run fun r => some (O_l_heldJar r) := fun d => by kernel_rfl
theorem fn_l_heldJar : Fn Tryz.prog 93 .plain F_l_heldJar := fn_of (cfgOk_of mixed tys_ok (show FnsOk Tryz.prog C_l_heldJar from ⟨fn_l_heldByteS, trivial⟩)) Tryz.func93 (by kernel_rfl) (by kernel_rfl) (fun cx b hp hb => all_of (by kernel_rfl : loopsOf (Tryz.f93.body.getD .skip) = []) trivial b hb) (R := (YI)) (T := fun (d : aden P_l_heldJar) => T_l_heldJar d.1 d.2.1) e_l_heldJar
def P_l_heldDice : List (Bool × List Sh) := [(true, [.sl 5 [.int .u8], .int .i64]), (false, [.int .i64])]
def O_l_heldDice (r : (YI)) : List RV × List RV := ([rv (false, [.int .i64]) r], [])
def C_l_heldDice : Fns := [(97, .plain, F_l_heldByteS)]
def F_l_heldDice : Fun1 := funV P_l_heldDice (fun d => (T_l_heldDice d.1 d.2.1).val) O_l_heldDice
def Q_l_heldDice : Loops := fun _ _ => .fail
theorem e_l_heldDice : ∀ d, pcall ⟨lookT tys, ctrOf C_l_heldDice, kindOf C_l_heldDice, 3, 4⟩ 0 Q_l_heldDice Tryz.f94 .plain (mkA P_l_heldDice d) = (T_l_heldDice d.1 d.2.1).run fun r => some (O_l_heldDice r) := fun d => by kernel_rfl
theorem fn_l_heldDice : Fn Tryz.prog 94 .plain F_l_heldDice := fn_of (cfgOk_of mixed tys_ok (show FnsOk Tryz.prog C_l_heldDice from ⟨fn_l_heldByteS, trivial⟩)) Tryz.func94 (by kernel_rfl) (by kernel_rfl) (fun cx b hp hb => all_of (by kernel_rfl : loopsOf (Tryz.f94.body.getD .skip) = []) trivial b hb) (R := (YI)) (T := fun (d : aden P_l_heldDice) => T_l_heldDice d.1 d.2.1) e_l_heldDice
def P_l_heldIntS : List (Bool × List Sh) := [(false, [.sl 3 [.int .i64]]), (false, [.int .i64])]
def O_l_heldIntS (r : (YI)) : List RV × List RV := ([rv (false, [.int .i64]) r], [])
def C_l_heldIntS : Fns := []
def F_l_heldIntS : Fun1 := funV P_l_heldIntS (fun d => (T_l_heldIntS d.1 d.2.1).val) O_l_heldIntS
def K_l_heldIntS_2 : Sk := ⟨[(0, .v false [(.sl 3 [.int .i64], .ro)]), (1, .v false [(.int .i64, .nil)]), (5, .v false [(.int .i64, .nil)])], [], []⟩
def X_l_heldIntS_2 : List (Ex × Sk) := [(.ret, ⟨[(4, .v false [(.int .i64, .nil)])], [], []⟩), ((.exit 0), ⟨[(1, .v false [(.int .i64, .nil)])], [], []⟩)]
def Q_l_heldIntS : Loops := fun i st => cond (Nat.beq i 2) (lam K_l_heldIntS_2 3000000 X_l_heldIntS_2 B_l_heldIntS_2 st) <| .fail
theorem lp_l_heldIntS_2 : ∀ d, bod ⟨lookT tys, ctrOf C_l_heldIntS, kindOf C_l_heldIntS, 3, 4⟩ 0 Tryz.f263.ntmps Q_l_heldIntS (nthLoop Tryz.f263 0) K_l_heldIntS_2 3000000 X_l_heldIntS_2 d = B_l_heldIntS_2 d := fun d => by kernel_rfl
theorem lo_l_heldIntS_2 (cx : Cx) (hp : cx.pin.length ≤ 0) : LoopOk Tryz.prog cx Tryz.f263.ntmps Q_l_heldIntS (nthLoop Tryz.f263 0) := loop_of (cfgOk_of mixed tys_ok (show FnsOk Tryz.prog C_l_heldIntS from trivial)) hp (all_of (by kernel_rfl : loopsOf (nthLoop Tryz.f263 0) = []) trivial) (by kernel_rfl) lp_l_heldIntS_2
theorem e_l_heldIntS : ∀ d, pcall ⟨lookT tys, ctrOf C_l_heldIntS, kindOf C_l_heldIntS, 3, 4⟩ 0 Q_l_heldIntS Tryz.f263 .plain (mkA P_l_heldIntS d) = (T_l_heldIntS d.1 d.2.1).run fun r => some (O_l_heldIntS r) := fun d => by kernel_rfl
theorem fn_l_heldIntS : Fn Tryz.prog 263 .plain F_l_heldIntS := fn_of (cfgOk_of mixed tys_ok (show FnsOk Tryz.prog C_l_heldIntS from trivial)) Tryz.func263 (by kernel_rfl) (by kernel_rfl) (fun cx b hp hb => all_of (by kernel_rfl : loopsOf (Tryz.f263.body.getD .skip) = [nthLoop Tryz.f263 0]) ⟨lo_l_heldIntS_2 cx hp, trivial⟩ b hb) (R := (YI)) (T := fun (d : aden P_l_heldIntS) => T_l_heldIntS d.1 d.2.1) e_l_heldIntS
def P_l_heldCandS : List (Bool × List Sh) := [(false, [.sl 274 h_4]), (false, [.int .i64])]
def O_l_heldCandS (r : (YI)) : List RV × List RV := ([rv (false, [.int .i64]) r], [])
def C_l_heldCandS : Fns := [(97, .plain, F_l_heldByteS)]
def F_l_heldCandS : Fun1 := funV P_l_heldCandS (fun d => (T_l_heldCandS d.1 d.2.1).val) O_l_heldCandS
def K_l_heldCandS_2 : Sk := ⟨[(0, .v false [(.sl 274 h_4, .ro)]), (1, .v false [(.int .i64, .nil)]), (5, .v false [(.int .i64, .nil)])], [], []⟩
def X_l_heldCandS_2 : List (Ex × Sk) := [(.ret, ⟨[(4, .v false [(.int .i64, .nil)])], [], []⟩), ((.exit 0), ⟨[(1, .v false [(.int .i64, .nil)])], [], []⟩)]
def Q_l_heldCandS : Loops := fun i st => cond (Nat.beq i 2) (lam K_l_heldCandS_2 3000000 X_l_heldCandS_2 B_l_heldCandS_2 st) <| .fail
theorem lp_l_heldCandS_2 : ∀ d, bod ⟨lookT tys, ctrOf C_l_heldCandS, kindOf C_l_heldCandS, 3, 4⟩ 0 Tryz.f227.ntmps Q_l_heldCandS (nthLoop Tryz.f227 0) K_l_heldCandS_2 3000000 X_l_heldCandS_2 d = B_l_heldCandS_2 d := fun d => by kernel_rfl
theorem lo_l_heldCandS_2 (cx : Cx) (hp : cx.pin.length ≤ 0) : LoopOk Tryz.prog cx Tryz.f227.ntmps Q_l_heldCandS (nthLoop Tryz.f227 0) := loop_of (cfgOk_of mixed tys_ok (show FnsOk Tryz.prog C_l_heldCandS from ⟨fn_l_heldByteS, trivial⟩)) hp (all_of (by kernel_rfl : loopsOf (nthLoop Tryz.f227 0) = []) trivial) (by kernel_rfl) lp_l_heldCandS_2
theorem e_l_heldCandS : ∀ d, pcall ⟨lookT tys, ctrOf C_l_heldCandS, kindOf C_l_heldCandS, 3, 4⟩ 0 Q_l_heldCandS Tryz.f227 .plain (mkA P_l_heldCandS d) = (T_l_heldCandS d.1 d.2.1).run fun r => some (O_l_heldCandS r) := fun d => by kernel_rfl
theorem fn_l_heldCandS : Fn Tryz.prog 227 .plain F_l_heldCandS := fn_of (cfgOk_of mixed tys_ok (show FnsOk Tryz.prog C_l_heldCandS from ⟨fn_l_heldByteS, trivial⟩)) Tryz.func227 (by kernel_rfl) (by kernel_rfl) (fun cx b hp hb => all_of (by kernel_rfl : loopsOf (Tryz.f227.body.getD .skip) = [nthLoop Tryz.f227 0]) ⟨lo_l_heldCandS_2 cx hp, trivial⟩ b hb) (R := (YI)) (T := fun (d : aden P_l_heldCandS) => T_l_heldCandS d.1 d.2.1) e_l_heldCandS
def P_l_heldSessS : List (Bool × List Sh) := [(false, [.sl 100 h_13]), (false, [.int .i64])]
def O_l_heldSessS (r : (YI)) : List RV × List RV := ([rv (false, [.int .i64]) r], [])
def C_l_heldSessS : Fns := [(97, .plain, F_l_heldByteS), (263, .plain, F_l_heldIntS), (227, .plain, F_l_heldCandS)]
def F_l_heldSessS : Fun1 := funV P_l_heldSessS (fun d => (T_l_heldSessS d.1 d.2.1).val) O_l_heldSessS
def K_l_heldSessS_2 : Sk := ⟨[(0, .v false [(.sl 100 h_13, .ro)]), (1, .v false [(.int .i64, .nil)]), (5, .v false [(.int .i64, .nil)])], [], []⟩
def X_l_heldSessS_2 : List (Ex × Sk) := [(.ret, ⟨[(4, .v false [(.int .i64, .nil)])], [], []⟩), ((.exit 0), ⟨[(1, .v false [(.int .i64, .nil)])], [], []⟩)]
def Q_l_heldSessS : Loops := fun i st => cond (Nat.beq i 2) (lam K_l_heldSessS_2 3000000 X_l_heldSessS_2 B_l_heldSessS_2 st) <| .fail
theorem lp_l_heldSessS_2 : ∀ d, bod ⟨lookT tys, ctrOf C_l_heldSessS, kindOf C_l_heldSessS, 3, 4⟩ 0 Tryz.f194.ntmps Q_l_heldSessS (nthLoop Tryz.f194 0) K_l_heldSessS_2 3000000 X_l_heldSessS_2 d = B_l_heldSessS_2 d := fun d => by kernel_rfl
theorem lo_l_heldSessS_2 (cx : Cx) (hp : cx.pin.length ≤ 0) : LoopOk Tryz.prog cx Tryz.f194.ntmps Q_l_heldSessS (nthLoop Tryz.f194 0) := loop_of (cfgOk_of mixed tys_ok (show FnsOk Tryz.prog C_l_heldSessS from ⟨fn_l_heldByteS, fn_l_heldIntS, fn_l_heldCandS, trivial⟩)) hp (all_of (by kernel_rfl : loopsOf (nthLoop Tryz.f194 0) = []) trivial) (by kernel_rfl) lp_l_heldSessS_2
theorem e_l_heldSessS : ∀ d, pcall ⟨lookT tys, ctrOf C_l_heldSessS, kindOf C_l_heldSessS, 3, 4⟩ 0 Q_l_heldSessS Tryz.f194 .plain (mkA P_l_heldSessS d) = (T_l_heldSessS d.1 d.2.1).run fun r => some (O_l_heldSessS r) := fun d => by kernel_rfl
theorem fn_l_heldSessS : Fn Tryz.prog 194 .plain F_l_heldSessS := fn_of (cfgOk_of mixed tys_ok (show FnsOk Tryz.prog C_l_heldSessS from ⟨fn_l_heldByteS, fn_l_heldIntS, fn_l_heldCandS, trivial⟩)) Tryz.func194 (by kernel_rfl) (by kernel_rfl) (fun cx b hp hb => all_of (by kernel_rfl : loopsOf (Tryz.f194.body.getD .skip) = [nthLoop Tryz.f194 0]) ⟨lo_l_heldSessS_2 cx hp, trivial⟩ b hb) (R := (YI)) (T := fun (d : aden P_l_heldSessS) => T_l_heldSessS d.1 d.2.1) e_l_heldSessS
def P_l_heldTab : List (Bool × List Sh) := [(true, [.int .i64, .sl 100 h_13]), (false, [.int .i64])]
def O_l_heldTab (r : (YI)) : List RV × List RV := ([rv (false, [.int .i64]) r], [])
def C_l_heldTab : Fns := [(194, .plain, F_l_heldSessS)]
def F_l_heldTab : Fun1 := funV P_l_heldTab (fun d => (T_l_heldTab d.1 d.2.1).val) O_l_heldTab
def Q_l_heldTab : Loops := fun _ _ => .fail
theorem e_l_heldTab : ∀ d, pcall ⟨lookT tys, ctrOf C_l_heldTab, kindOf C_l_heldTab, 3, 4⟩ 0 Q_l_heldTab Tryz.f95 .plain (mkA P_l_heldTab d) = (T_l_heldTab d.1 d.2.1).run fun r => some (O_l_heldTab r) := fun d => by kernel_rfl
theorem fn_l_heldTab : Fn Tryz.prog 95 .plain F_l_heldTab := fn_of (cfgOk_of mixed tys_ok (show FnsOk Tryz.prog C_l_heldTab from ⟨fn_l_heldSessS, trivial⟩)) Tryz.func95 (by kernel_rfl) (by kernel_rfl) (fun cx b hp hb => all_of (by kernel_rfl : loopsOf (Tryz.f95.body.getD .skip) = []) trivial b hb) (R := (YI)) (T := fun (d : aden P_l_heldTab) => T_l_heldTab d.1 d.2.1) e_l_heldTab
def P_l_heldCreditS : List (Bool × List Sh) := [(false, [.sl 218 h_2]), (false, [.int .i64])]
def O_l_heldCreditS (r : (YI)) : List RV × List RV := ([rv (false, [.int .i64]) r], [])
def C_l_heldCreditS : Fns := []
def F_l_heldCreditS : Fun1 := funV P_l_heldCreditS (fun d => (T_l_heldCreditS d.1 d.2.1).val) O_l_heldCreditS
def K_l_heldCreditS_2 : Sk := ⟨[(0, .v false [(.sl 218 h_2, .ro)]), (1, .v false [(.int .i64, .nil)]), (5, .v false [(.int .i64, .nil)])], [], []⟩
def X_l_heldCreditS_2 : List (Ex × Sk) := [(.ret, ⟨[(4, .v false [(.int .i64, .nil)])], [], []⟩), ((.exit 0), ⟨[(1, .v false [(.int .i64, .nil)])], [], []⟩)]
def Q_l_heldCreditS : Loops := fun i st => cond (Nat.beq i 2) (lam K_l_heldCreditS_2 3000000 X_l_heldCreditS_2 B_l_heldCreditS_2 st) <| .fail
theorem lp_l_heldCreditS_2 : ∀ d, bod ⟨lookT tys, ctrOf C_l_heldCreditS, kindOf C_l_heldCreditS, 3, 4⟩ 0 Tryz.f96.ntmps Q_l_heldCreditS (nthLoop Tryz.f96 0) K_l_heldCreditS_2 3000000 X_l_heldCreditS_2 d = B_l_heldCreditS_2 d := fun d => by kernel_rfl
theorem lo_l_heldCreditS_2 (cx : Cx) (hp : cx.pin.length ≤ 0) : LoopOk Tryz.prog cx Tryz.f96.ntmps Q_l_heldCreditS (nthLoop Tryz.f96 0) := loop_of (cfgOk_of mixed tys_ok (show FnsOk Tryz.prog C_l_heldCreditS from trivial)) hp (all_of (by kernel_rfl : loopsOf (nthLoop Tryz.f96 0) = []) trivial) (by kernel_rfl) lp_l_heldCreditS_2
theorem e_l_heldCreditS : ∀ d, pcall ⟨lookT tys, ctrOf C_l_heldCreditS, kindOf C_l_heldCreditS, 3, 4⟩ 0 Q_l_heldCreditS Tryz.f96 .plain (mkA P_l_heldCreditS d) = (T_l_heldCreditS d.1 d.2.1).run fun r => some (O_l_heldCreditS r) := fun d => by kernel_rfl
theorem fn_l_heldCreditS : Fn Tryz.prog 96 .plain F_l_heldCreditS := fn_of (cfgOk_of mixed tys_ok (show FnsOk Tryz.prog C_l_heldCreditS from trivial)) Tryz.func96 (by kernel_rfl) (by kernel_rfl) (fun cx b hp hb => all_of (by kernel_rfl : loopsOf (Tryz.f96.body.getD .skip) = [nthLoop Tryz.f96 0]) ⟨lo_l_heldCreditS_2 cx hp, trivial⟩ b hb) (R := (YI)) (T := fun (d : aden P_l_heldCreditS) => T_l_heldCreditS d.1 d.2.1) e_l_heldCreditS
def P_l_heldServer : List (Bool × List Sh) := [(true, h_15), (false, [.int .i64])]
def O_l_heldServer (r : (YI)) : List RV × List RV := ([rv (false, [.int .i64]) r], [])
def C_l_heldServer : Fns := [(92, .plain, F_l_heldByteSS), (93, .plain, F_l_heldJar), (94, .plain, F_l_heldDice), (95, .plain, F_l_heldTab), (96, .plain, F_l_heldCreditS)]
def F_l_heldServer : Fun1 := funV P_l_heldServer (fun d => (T_l_heldServer d.1 d.2.1).val) O_l_heldServer
def Q_l_heldServer : Loops := fun _ _ => .fail
theorem e_l_heldServer : ∀ d, pcall ⟨lookT tys, ctrOf C_l_heldServer, kindOf C_l_heldServer, 3, 4⟩ 0 Q_l_heldServer Tryz.f20 .plain (mkA P_l_heldServer d) = (T_l_heldServer d.1 d.2.1).run fun r => some (O_l_heldServer r) := fun d => by kernel_rfl
theorem fn_l_heldServer : Fn Tryz.prog 20 .plain F_l_heldServer := fn_of (cfgOk_of mixed tys_ok (show FnsOk Tryz.prog C_l_heldServer from ⟨fn_l_heldByteSS, fn_l_heldJar, fn_l_heldDice, fn_l_heldTab, fn_l_heldCreditS, trivial⟩)) Tryz.func20 (by kernel_rfl) (by kernel_rfl) (fun cx b hp hb => all_of (by kernel_rfl : loopsOf (Tryz.f20.body.getD .skip) = []) trivial b hb) (R := (YI)) (T := fun (d : aden P_l_heldServer) => T_l_heldServer d.1 d.2.1) e_l_heldServer
def P_l_heldNoteS : List (Bool × List Sh) := [(false, [.sl 139 h_8]), (false, [.int .i64])]
def O_l_heldNoteS (r : (YI)) : List RV × List RV := ([rv (false, [.int .i64]) r], [])
def C_l_heldNoteS : Fns := [(97, .plain, F_l_heldByteS)]
def F_l_heldNoteS : Fun1 := funV P_l_heldNoteS (fun d => (T_l_heldNoteS d.1 d.2.1).val) O_l_heldNoteS
def K_l_heldNoteS_2 : Sk := ⟨[(0, .v false [(.sl 139 h_8, .ro)]), (1, .v false [(.int .i64, .nil)]), (5, .v false [(.int .i64, .nil)])], [], []⟩
def X_l_heldNoteS_2 : List (Ex × Sk) := [(.ret, ⟨[(4, .v false [(.int .i64, .nil)])], [], []⟩), ((.exit 0), ⟨[(1, .v false [(.int .i64, .nil)])], [], []⟩)]
def Q_l_heldNoteS : Loops := fun i st => cond (Nat.beq i 2) (lam K_l_heldNoteS_2 3000000 X_l_heldNoteS_2 B_l_heldNoteS_2 st) <| .fail
theorem lp_l_heldNoteS_2 : ∀ d, bod ⟨lookT tys, ctrOf C_l_heldNoteS, kindOf C_l_heldNoteS, 3, 4⟩ 0 Tryz.f21.ntmps Q_l_heldNoteS (nthLoop Tryz.f21 0) K_l_heldNoteS_2 3000000 X_l_heldNoteS_2 d = B_l_heldNoteS_2 d := fun d => by kernel_rfl
theorem lo_l_heldNoteS_2 (cx : Cx) (hp : cx.pin.length ≤ 0) : LoopOk Tryz.prog cx Tryz.f21.ntmps Q_l_heldNoteS (nthLoop Tryz.f21 0) := loop_of (cfgOk_of mixed tys_ok (show FnsOk Tryz.prog C_l_heldNoteS from ⟨fn_l_heldByteS, trivial⟩)) hp (all_of (by kernel_rfl : loopsOf (nthLoop Tryz.f21 0) = []) trivial) (by kernel_rfl) lp_l_heldNoteS_2
theorem e_l_heldNoteS : ∀ d, pcall ⟨lookT tys, ctrOf C_l_heldNoteS, kindOf C_l_heldNoteS, 3, 4⟩ 0 Q_l_heldNoteS Tryz.f21 .plain (mkA P_l_heldNoteS d) = (T_l_heldNoteS d.1 d.2.1).run fun r => some (O_l_heldNoteS r) := fun d => by kernel_rfl
theorem fn_l_heldNoteS : Fn Tryz.prog 21 .plain F_l_heldNoteS := fn_of (cfgOk_of mixed tys_ok (show FnsOk Tryz.prog C_l_heldNoteS from ⟨fn_l_heldByteS, trivial⟩)) Tryz.func21 (by kernel_rfl) (by kernel_rfl) (fun cx b hp hb => all_of (by kernel_rfl : loopsOf (Tryz.f21.body.getD .skip) = [nthLoop Tryz.f21 0]) ⟨lo_l_heldNoteS_2 cx hp, trivial⟩ b hb) (R := (YI)) (T := fun (d : aden P_l_heldNoteS) => T_l_heldNoteS d.1 d.2.1) e_l_heldNoteS
def P_l_FnExactBoot : List (Bool × List Sh) := [(true, h_14)]
def O_l_FnExactBoot (r : (Bool × Unit)) : List RV × List RV := ([rv (false, [.bool]) r], [])
def C_l_FnExactBoot : Fns := [(12, .plain, F_l_szServer), (14, .plain, F_l_toServer), (51, .plain, F_s_Boot), (52, .plain, F_i_Boot), (16, .plain, F_l_eqServer), (17, .plain, F_l_eqNoteS), (18, (.lend [1]), F_l_markServer), (19, (.lend [1]), F_l_markNoteS), (20, .plain, F_l_heldServer), (21, .plain, F_l_heldNoteS)]
def F_l_FnExactBoot : Fun1 := funV P_l_FnExactBoot (fun d => (T_l_FnExactBoot d.1).val) O_l_FnExactBoot
def Q_l_FnExactBoot : Loops := fun _ _ => .fail
theorem e_l_FnExactBoot : ∀ d, pcall ⟨lookT tys, ctrOf C_l_FnExactBoot, kindOf C_l_FnExactBoot, 3, 4⟩ 0 Q_l_FnExactBoot Tryz.f9 .plain (mkA P_l_FnExactBoot d) = (T_l_FnExactBoot d.1).run fun r => some (O_l_FnExactBoot r) := fun d => by kernel_rfl
theorem fn_l_FnExactBoot : Fn Tryz.prog 9 .plain F_l_FnExactBoot := fn_of (cfgOk_of mixed tys_ok (show FnsOk Tryz.prog C_l_FnExactBoot from ⟨fn_l_szServer, fn_l_toServer, fn_s_Boot, fn_i_Boot, fn_l_eqServer, fn_l_eqNoteS, fn_l_markServer, fn_l_markNoteS, fn_l_heldServer, fn_l_heldNoteS, trivial⟩)) Tryz.func9 (by kernel_rfl) (by kernel_rfl) (fun cx b hp hb => all_of (by kernel_rfl : loopsOf (Tryz.f9.body.getD .skip) = []) trivial b hb) (R := (Bool × Unit)) (T := fun (d : aden P_l_FnExactBoot) => T_l_FnExactBoot d.1) e_l_FnExactBoot
end
end Go.Proofs.YtdlcjpjflckdlaaGreat

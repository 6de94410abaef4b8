/-
  That the functions of the seat answer what the terms of text W say; nothing is assumed.
-/
import Derived.Test.YtggdikabbngbaaaGreatW
import Derived.Test.YtggdikabbngbaaaGreatProg
import Derived.KernelRfl
namespace Go.Proofs.YtggdikabbngbaaaGreat
open Go.RowKit
set_option linter.unusedVariables false
set_option maxRecDepth 100000
set_option maxHeartbeats 4000000
noncomputable section
abbrev h_0 : List Sh := [.int .i64, .int .i64, .bool, .int .u8]
abbrev h_1 : List Sh := [.bool, .int .i64, .int .i64, .int .i64]
abbrev h_2 : List Sh := [.sl 5 [.int .u8], .int .i64, .int .i64]
abbrev h_3 : List Sh := [.int .i64, .int .i64, .int .i64, .int .i64]
abbrev h_4 : List Sh := [.sl 3 [.int .i64], .sl 5 [.int .u8], .int .i64]
abbrev h_5 : List Sh := [.int .i64, .int .i64, .sl 5 [.int .u8], .int .i64]
abbrev h_6 : List Sh := [.int .i64, .sl 5 [.int .u8], .int .i64, .int .i64, .sl 3 [.int .i64]]
abbrev h_7 : List Sh := [.int .i64, .int .i64, .sl 311 h_5]
abbrev h_8 : List Sh := [.int .i64, .int .i64, .sl 361 h_5]
abbrev h_9 : List Sh := [.int .i64, .int .i64, .int .i64, .sl 5 [.int .u8], .sl 5 [.int .u8], .int .i64, .int .i64, .sl 5 [.int .u8], .sl 5 [.int .u8], .int .i64, .int .i64, .int .i64]
abbrev D5 : List Sh := [.int .i64, .int .i64, .sl 5 [.int .u8], .sl 5 [.int .u8], .int .i64, .sl 5 [.int .u8], .sl 5 [.int .u8], .int .i64, .int .i64, .sl 5 [.int .u8], .sl 5 [.int .u8]]
abbrev Nq : List Sh := [.int .i64, .int .i64, .int .i64, .int .i64, .sl 5 [.int .u8], .sl 5 [.int .u8], .int .i64, .sl 5 [.int .u8], .sl 5 [.int .u8], .int .i64, .int .i64, .sl 5 [.int .u8], .sl 5 [.int .u8]]
abbrev Dd : List Sh := [.int .i64, .sl 5 [.int .u8], .int .i64, .sl 5 [.int .u8], .int .i64, .int .i64, .sl 3 [.int .i64], .int .i64, .sl 5 [.int .u8], .int .i64, .int .i64, .sl 3 [.int .i64], .bool, .int .i64, .sl 5 [.int .u8]]
abbrev Kd : List Sh := [.int .i64, .sl 5 [.int .u8], .sl 5 [.int .u8], .int .i64, .sl 5 [.int .u8], .int .i64, .sl 5 [.int .u8], .int .i64, .int .i64, .sl 3 [.int .i64], .int .i64, .sl 5 [.int .u8], .int .i64, .int .i64, .sl 3 [.int .i64], .bool, .int .i64, .sl 5 [.int .u8], .int .i64, .int .i64, .sl 311 h_5, .int .i64, .int .i64, .bool]
abbrev A2z : List Sh := [.int .i64, .sl 5 [.int .u8], .sl 5 [.int .u8], .int .i64, .sl 5 [.int .u8], .int .i64, .sl 5 [.int .u8], .int .i64, .int .i64, .sl 3 [.int .i64], .int .i64, .sl 5 [.int .u8], .int .i64, .int .i64, .sl 3 [.int .i64], .bool, .int .i64, .sl 5 [.int .u8], .int .i64, .int .i64, .sl 361 h_5, .int .i64, .int .i64, .bool]
abbrev Bqh : List Sh := [.sl 22 [.sl 5 [.int .u8]], .sl 5 [.int .u8], .sl 5 [.int .u8], .int .i64, .int .i64, .sl 103 Kd, .sl 271 h_3]
abbrev Bqi : List Sh := [.sl 22 [.sl 5 [.int .u8]], .sl 5 [.int .u8], .sl 5 [.int .u8], .int .i64, .int .i64, .sl 138 A2z, .sl 291 h_3]
abbrev Bqj : List Sh := [.int .i64, .sl 5 [.int .u8], .int .i64, .int .i64, .int .i64, .sl 5 [.int .u8], .int .i64, .int .i64, .sl 5 [.int .u8], .sl 5 [.int .u8], .int .i64, .sl 5 [.int .u8], .sl 5 [.int .u8], .int .i64, .int .i64, .sl 5 [.int .u8], .sl 5 [.int .u8], .int .i64, .sl 5 [.int .u8], .int .i64, .sl 5 [.int .u8], .int .i64, .int .i64, .sl 3 [.int .i64], .int .i64, .sl 5 [.int .u8], .int .i64, .int .i64, .sl 3 [.int .i64], .bool, .int .i64, .sl 5 [.int .u8], .bool, .int .i64, .int .i64, .int .i64, .bool, .int .i64, .int .i64, .int .i64, .int .i64]
def tys : List (Nat × Ty) := [(3, ⟨false, [.int .i64], [], false, []⟩),
 (4, ⟨false, [.bool], [], false, []⟩),
 (5, ⟨false, [.int .u8], [], false, []⟩),
 (9, ⟨false, [.str], [], false, []⟩),
 (22, ⟨false, [.sl 5 [.int .u8]], [], false, []⟩),
 (24, ⟨false, [.sl 22 [.sl 5 [.int .u8]]], [], false, []⟩),
 (36, ⟨true, [.int .i64, .int .i64], [(0, 1), (1, 1)], true, []⟩),
 (39, ⟨false, [.sl 158 Nq], [], false, []⟩),
 (40, ⟨false, [.sl 93 h_9], [], false, []⟩),
 (44, ⟨true, D5, [(0, 1), (1, 1), (2, 1), (3, 1), (4, 1), (5, 1), (6, 1), (7, 1), (8, 1), (9, 1), (10, 1)], false, []⟩),
 (58, ⟨true, [.int .i64, .int .i64], [(0, 1), (1, 1)], true, []⟩),
 (70, ⟨false, [.sl 3 [.int .i64]], [], false, []⟩),
 (72, ⟨true, [.int .i64, .sl 3 [.int .i64]], [(0, 1), (1, 1)], false, []⟩),
 (74, ⟨true, h_6, [(0, 1), (1, 1), (2, 1), (3, 2)], false, []⟩),
 (76, ⟨true, Dd, [(0, 1), (1, 1), (2, 5), (7, 5), (12, 1), (13, 1), (14, 1)], false, []⟩),
 (93, ⟨true, h_9, [(0, 1), (1, 1), (2, 1), (3, 1), (4, 1), (5, 1), (6, 1), (7, 1), (8, 1), (9, 2), (11, 1)], false, []⟩),
 (99, ⟨false, [.sl 311 h_5], [], false, []⟩),
 (101, ⟨true, h_7, [(0, 2), (2, 1)], false, [36, 99]⟩),
 (103, ⟨true, Kd, [(0, 1), (1, 1), (2, 1), (3, 15), (18, 3), (21, 1), (22, 1), (23, 1)], false, []⟩),
 (116, ⟨true, D5, [(0, 1), (1, 1), (2, 1), (3, 1), (4, 1), (5, 1), (6, 1), (7, 1), (8, 1), (9, 1), (10, 1)], false, []⟩),
 (117, ⟨true, [.int .i64, .sl 3 [.int .i64]], [(0, 1), (1, 1)], false, []⟩),
 (119, ⟨true, h_6, [(0, 1), (1, 1), (2, 1), (3, 2)], false, []⟩),
 (121, ⟨true, Dd, [(0, 1), (1, 1), (2, 5), (7, 5), (12, 1), (13, 1), (14, 1)], false, []⟩),
 (134, ⟨false, [.sl 361 h_5], [], false, []⟩),
 (136, ⟨true, h_8, [(0, 2), (2, 1)], false, []⟩),
 (138, ⟨true, A2z, [(0, 1), (1, 1), (2, 1), (3, 15), (18, 3), (21, 1), (22, 1), (23, 1)], false, []⟩),
 (158, ⟨true, Nq, [(0, 2), (2, 11)], false, []⟩),
 (311, ⟨true, h_5, [(0, 2), (2, 1), (3, 1)], false, []⟩),
 (345, ⟨false, [.int .u64], [], false, []⟩),
 (361, ⟨true, h_5, [(0, 2), (2, 1), (3, 1)], false, []⟩),
 (378, ⟨true, h_4, [(0, 1), (1, 1), (2, 1)], false, []⟩)]
theorem Au : Bgn Tryz.prog tys = true := by kernel_rfl
theorem A2 : Tryz.prog.follows .mixedOrders = true := by kernel_rfl
theorem mkF {f : FuncId} {fn : Func} {kd : Kind} {ps : List (Bool × List Sh)} {R : Type} {T : Bw ps → Tree R} {rvs : R → List RV × List RV} (C : Fns) (hc : A0 Tryz.prog C) (hf : Tryz.prog.funcs[f]? = some fn) (hn : (fn.name == "runtime.NumGoroutine") = false) (hb : fn.body.isSome = true) (hl : Am (fn.body.getD .skip) = []) (np : Nat)
  (he : ∀ d, Bn ⟨Az tys, Ax C, Ap C, 3, 4⟩ np (fun _ _ => .fail) fn kd (mkA ps d) = (T d).run fun r => some (rvs r)) : Fn Tryz.prog f kd (Aq ps (fun d => (T d).val) rvs) :=
 Br (Al A2 Au hc) hf hn hb (fun cx b hp hbb => by rw [hl] at hbb; cases hbb) he
def Mb : As := Aq [(false, [.sl 5 [.int .u8]]), (false, [.int .i64])] (fun d => (Adr d.1 d.2.1).val) fun r => ([rv (false, [.int .i64]) r], [])
theorem Nr : Fn Tryz.prog 225 .plain Mb := mkF [] trivial Tryz.func225 (by kernel_rfl) (by kernel_rfl) (by kernel_rfl) 0 fun d => by kernel_rfl
def Ayd : As := Aq [(false, [.sl 3 [.int .i64]]), (false, [.int .i64])] (fun d => (Ah3 d.1 d.2.1).val) fun r => ([rv (false, [.int .i64]) r], [])
theorem Bcx : Fn Tryz.prog 436 .plain Ayd := mkF [] trivial Tryz.func436 (by kernel_rfl) (by kernel_rfl) (by kernel_rfl) 0 fun d => by kernel_rfl
def A5f : As := Aq [(true, [.int .i64, .sl 3 [.int .i64]]), (false, [.int .i64])] (fun d => (Aog d.1 d.2.1).val) fun r => ([rv (false, [.int .i64]) r], [])
theorem Bgo : Fn Tryz.prog 409 .plain A5f := mkF [(436, .plain, Ayd)] ⟨Bcx, trivial⟩ Tryz.func409 (by kernel_rfl) (by kernel_rfl) (by kernel_rfl) 0 fun d => by kernel_rfl
def A8w : As := Aq [(true, h_6), (false, [.int .i64])] (fun d => (Ave d.1 d.2.1).val) fun r => ([rv (false, [.int .i64]) r], [])
theorem Bi1 : Fn Tryz.prog 351 .plain A8w := mkF [(225, .plain, Mb), (409, .plain, A5f)] ⟨Nr, Bgo, trivial⟩ Tryz.func351 (by kernel_rfl) (by kernel_rfl) (by kernel_rfl) 0 fun d => by kernel_rfl
def Aye : As := Aq [(true, Dd), (false, [.int .i64])] (fun d => (Ah6 d.1 d.2.1).val) fun r => ([rv (false, [.int .i64]) r], [])
theorem Bcy : Fn Tryz.prog 226 .plain Aye := mkF [(225, .plain, Mb), (351, .plain, A8w)] ⟨Nr, Bi1, trivial⟩ Tryz.func226 (by kernel_rfl) (by kernel_rfl) (by kernel_rfl) 0 fun d => by kernel_rfl
def Ayf : As := Aq [(true, h_5), (false, [.int .i64])] (fun d => (Ah8 d.1 d.2.1).val) fun r => ([rv (false, [.int .i64]) r], [])
theorem Atn : Fn Tryz.prog 414 .plain Ayf := mkF [(225, .plain, Mb)] ⟨Nr, trivial⟩ Tryz.func414 (by kernel_rfl) (by kernel_rfl) (by kernel_rfl) 0 fun d => by kernel_rfl
def Aev : List (Bool × List Sh) := [(false, [.sl 361 h_5]), (false, [.int .i64])]
def Ato (r : (YI)) : List RV × List RV := ([rv (false, [.int .i64]) r], [])
def Mc : Fns := [(414, .plain, Ayf)]
def Atp : As := Aq Aev (fun d => (P0 d.1 d.2.1).val) Ato
def Amq : Sk := ⟨[(0, .v false [(.sl 361 h_5, .ro)]), (1, .v false [(.int .i64, .nil)]), (5, .v false [(.int .i64, .nil)])], [], []⟩
def Amr : List (Ex × Sk) := [(.ret, ⟨[(4, .v false [(.int .i64, .nil)])], [], []⟩), ((.exit 0), ⟨[(1, .v false [(.int .i64, .nil)])], [], []⟩)]
def Aew : Bl := fun i st => cond (Nat.beq i 5) (lam Amq 6000000 Amr Ls st) <| .fail
theorem A20 : ∀ d, bod ⟨Az tys, Ax Mc, Ap Mc, 3, 4⟩ 0 Tryz.f359.ntmps Aew (Ac Tryz.f359 0) Amq 6000000 Amr d = Ls d := fun d => by kernel_rfl
theorem A21 (cx : Cx) (hp : cx.pin.length ≤ 0) : Bf Tryz.prog cx Tryz.f359.ntmps Aew (Ac Tryz.f359 0) := Bc (Al A2 Au (show A0 Tryz.prog Mc from ⟨Atn, trivial⟩)) hp (Aw (by kernel_rfl : Am (Ac Tryz.f359 0) = []) trivial) (by kernel_rfl) A20
theorem Bcz : ∀ d, Bn ⟨Az tys, Ax Mc, Ap Mc, 3, 4⟩ 0 Aew Tryz.f359 .plain (mkA Aev d) = (P0 d.1 d.2.1).run fun r => some (Ato r) := fun d => by kernel_rfl
theorem A8x : Fn Tryz.prog 359 .plain Atp := Br (Al A2 Au (show A0 Tryz.prog Mc from ⟨Atn, trivial⟩)) Tryz.func359 (by kernel_rfl) (by kernel_rfl) (fun cx b hp hb => Aw (by kernel_rfl : Am (Tryz.f359.body.getD .skip) = [Ac Tryz.f359 0]) ⟨A21 cx hp, trivial⟩ b hb) (R := (YI)) (T := fun (d : Bw Aev) => P0 d.1 d.2.1) Bcz
def Atq : As := Aq [(true, h_8), (false, [.int .i64])] (fun d => (Adt d.1 d.2.1).val) fun r => ([rv (false, [.int .i64]) r], [])
theorem A8y : Fn Tryz.prog 239 .plain Atq := mkF [(359, .plain, Atp)] ⟨A8x, trivial⟩ Tryz.func239 (by kernel_rfl) (by kernel_rfl) (by kernel_rfl) 0 fun d => by kernel_rfl
def Ayg : As := Aq [(true, A2z), (false, [.int .i64])] (fun d => (Aia d.1 d.2.1).val) fun r => ([rv (false, [.int .i64]) r], [])
theorem Bc0 : Fn Tryz.prog 71 .plain Ayg := mkF [(225, .plain, Mb), (226, .plain, Aye), (239, .plain, Atq)] ⟨Nr, Bcy, A8y, trivial⟩ Tryz.func71 (by kernel_rfl) (by kernel_rfl) (by kernel_rfl) 0 fun d => by kernel_rfl
def Atr : As := Aq [(true, D5), (false, [.int .i64])] (fun d => (Adv d.1 d.2.1).val) fun r => ([rv (false, [.int .i64]) r], [])
theorem A8z : Fn Tryz.prog 59 .plain Atr := mkF [(225, .plain, Mb)] ⟨Nr, trivial⟩ Tryz.func59 (by kernel_rfl) (by kernel_rfl) (by kernel_rfl) 0 fun d => by kernel_rfl
def Aex : List (Bool × List Sh) := [(false, [.sl 5 [.int .u8]])]
def Ats (r : (YBs)) : List RV × List RV := ([rv (false, [.sl 5 [.int .u8]]) r], [])
def Md : Fns := []
def Jw : As := Aq Aex (fun d => (P1 d.1).val) Ats
def Ams : Sk := ⟨[(0, .v false [(.sl 5 [.int .u8], .ro)]), (3, .v false [(.sl 5 [.int .u8], (.own 4000000))]), (4, .v false [(.int .i64, .nil)])], [], [4000000]⟩
def Amt : List (Ex × Sk) := [((.exit 0), ⟨[(3, .v false [(.sl 5 [.int .u8], (.own 4000000))])], [], [4000000]⟩)]
def Aey : Bl := fun i st => cond (Nat.beq i 3) (lam Ams 4000000 Amt Ij st) <| .fail
theorem A22 : ∀ d, bod ⟨Az tys, Ax Md, Ap Md, 3, 4⟩ 0 Tryz.f22.ntmps Aey (Ac Tryz.f22 0) Ams 4000000 Amt d = Ij d := fun d => by kernel_rfl
theorem A23 (cx : Cx) (hp : cx.pin.length ≤ 0) : Bf Tryz.prog cx Tryz.f22.ntmps Aey (Ac Tryz.f22 0) := Bc (Al A2 Au (show A0 Tryz.prog Md from trivial)) hp (Aw (by kernel_rfl : Am (Ac Tryz.f22 0) = []) trivial) (by kernel_rfl) A22
theorem Bc1 : ∀ d, Bn ⟨Az tys, Ax Md, Ap Md, 3, 4⟩ 0 Aey Tryz.f22 .plain (mkA Aex d) = (P1 d.1).run fun r => some (Ats r) := fun d => by kernel_rfl
theorem Ke : Fn Tryz.prog 22 .plain Jw := Br (Al A2 Au (show A0 Tryz.prog Md from trivial)) Tryz.func22 (by kernel_rfl) (by kernel_rfl) (fun cx b hp hb => Aw (by kernel_rfl : Am (Tryz.f22.body.getD .skip) = [Ac Tryz.f22 0]) ⟨A23 cx hp, trivial⟩ b hb) (R := (YBs)) (T := fun (d : Bw Aex) => P1 d.1) Bc1
def Akd : List (Bool × List Sh) := [(false, [.sl 3 [.int .i64]])]
def Ayh (r : ((List YI) × Unit)) : List RV × List RV := ([rv (false, [.sl 3 [.int .i64]]) r], [])
def O8 : Fns := []
def Ayi : As := Aq Akd (fun d => (Rx d.1).val) Ayh
def Aow : Sk := ⟨[(0, .v false [(.sl 3 [.int .i64], .ro)]), (3, .v false [(.sl 3 [.int .i64], (.own 4000000))]), (4, .v false [(.int .i64, .nil)])], [], [4000000]⟩
def Aox : List (Ex × Sk) := [((.exit 0), ⟨[(3, .v false [(.sl 3 [.int .i64], (.own 4000000))])], [], [4000000]⟩)]
def Ake : Bl := fun i st => cond (Nat.beq i 3) (lam Aow 4000000 Aox J7 st) <| .fail
theorem A61 : ∀ d, bod ⟨Az tys, Ax O8, Ap O8, 3, 4⟩ 0 Tryz.f437.ntmps Ake (Ac Tryz.f437 0) Aow 4000000 Aox d = J7 d := fun d => by kernel_rfl
theorem A62 (cx : Cx) (hp : cx.pin.length ≤ 0) : Bf Tryz.prog cx Tryz.f437.ntmps Ake (Ac Tryz.f437 0) := Bc (Al A2 Au (show A0 Tryz.prog O8 from trivial)) hp (Aw (by kernel_rfl : Am (Ac Tryz.f437 0) = []) trivial) (by kernel_rfl) A61
theorem Bgp : ∀ d, Bn ⟨Az tys, Ax O8, Ap O8, 3, 4⟩ 0 Ake Tryz.f437 .plain (mkA Akd d) = (Rx d.1).run fun r => some (Ayh r) := fun d => by kernel_rfl
theorem Bc2 : Fn Tryz.prog 437 .plain Ayi := Br (Al A2 Au (show A0 Tryz.prog O8 from trivial)) Tryz.func437 (by kernel_rfl) (by kernel_rfl) (fun cx b hp hb => Aw (by kernel_rfl : Am (Tryz.f437.body.getD .skip) = [Ac Tryz.f437 0]) ⟨A62 cx hp, trivial⟩ b hb) (R := ((List YI) × Unit)) (T := fun (d : Bw Akd) => Rx d.1) Bgp
def A5g : As := Aq [(true, [.int .i64, .sl 3 [.int .i64]])] (fun d => (Aoi d.1).val) fun r => ([rv (true, [.int .i64, .sl 3 [.int .i64]]) r], [])
theorem Bgq : Fn Tryz.prog 410 .plain A5g := mkF [(437, .plain, Ayi)] ⟨Bc2, trivial⟩ Tryz.func410 (by kernel_rfl) (by kernel_rfl) (by kernel_rfl) 0 fun d => by kernel_rfl
def A80 : As := Aq [(true, h_6)] (fun d => (Avf d.1).val) fun r => ([rv (true, h_6) r], [])
theorem Bi2 : Fn Tryz.prog 355 .plain A80 := mkF [(22, .plain, Jw), (410, .plain, A5g)] ⟨Ke, Bgq, trivial⟩ Tryz.func355 (by kernel_rfl) (by kernel_rfl) (by kernel_rfl) 0 fun d => by kernel_rfl
def Ayj : As := Aq [(true, Dd)] (fun d => (Aie d.1).val) fun r => ([rv (true, Dd) r], [])
theorem Bc3 : Fn Tryz.prog 231 .plain Ayj := mkF [(22, .plain, Jw), (355, .plain, A80)] ⟨Ke, Bi2, trivial⟩ Tryz.func231 (by kernel_rfl) (by kernel_rfl) (by kernel_rfl) 0 fun d => by kernel_rfl
def X0 : As := Aq [(true, [.int .i64, .int .i64])] (fun d => (Aig d.1).val) fun r => ([rv (true, [.int .i64, .int .i64]) r], [])
theorem Aez : Fn Tryz.prog 21 .plain X0 := mkF [] trivial Tryz.func21 (by kernel_rfl) (by kernel_rfl) (by kernel_rfl) 0 fun d => by kernel_rfl
def Ayk : As := Aq [(true, h_5)] (fun d => (Aih d.1).val) fun r => ([rv (true, h_5) r], [])
theorem Att : Fn Tryz.prog 415 .plain Ayk := mkF [(21, .plain, X0), (22, .plain, Jw)] ⟨Aez, Ke, trivial⟩ Tryz.func415 (by kernel_rfl) (by kernel_rfl) (by kernel_rfl) 0 fun d => by kernel_rfl
def Ae0 : List (Bool × List Sh) := [(false, [.sl 361 h_5])]
def Atu (r : ((List Aj) × Unit)) : List RV × List RV := ([rv (false, [.sl 311 h_5]) r], [])
def Me : Fns := [(415, .plain, Ayk)]
def Atv : As := Aq Ae0 (fun d => (P2 d.1).val) Atu
def Amu : Sk := ⟨[(0, .v false [(.sl 361 h_5, .ro)]), (3, .v false [(.sl 311 h_5, (.own 4000000))]), (4, .v false [(.int .i64, .nil)])], [], [4000000]⟩
def Amv : List (Ex × Sk) := [((.exit 0), ⟨[(3, .v false [(.sl 311 h_5, (.own 4000000))])], [], [4000000]⟩)]
def Ae1 : Bl := fun i st => cond (Nat.beq i 3) (lam Amu 4000000 Amv Ik st) <| .fail
theorem A24 : ∀ d, bod ⟨Az tys, Ax Me, Ap Me, 3, 4⟩ 0 Tryz.f360.ntmps Ae1 (Ac Tryz.f360 0) Amu 4000000 Amv d = Ik d := fun d => by kernel_rfl
theorem A25 (cx : Cx) (hp : cx.pin.length ≤ 0) : Bf Tryz.prog cx Tryz.f360.ntmps Ae1 (Ac Tryz.f360 0) := Bc (Al A2 Au (show A0 Tryz.prog Me from ⟨Att, trivial⟩)) hp (Aw (by kernel_rfl : Am (Ac Tryz.f360 0) = []) trivial) (by kernel_rfl) A24
theorem Bc4 : ∀ d, Bn ⟨Az tys, Ax Me, Ap Me, 3, 4⟩ 0 Ae1 Tryz.f360 .plain (mkA Ae0 d) = (P2 d.1).run fun r => some (Atu r) := fun d => by kernel_rfl
theorem A81 : Fn Tryz.prog 360 .plain Atv := Br (Al A2 Au (show A0 Tryz.prog Me from ⟨Att, trivial⟩)) Tryz.func360 (by kernel_rfl) (by kernel_rfl) (fun cx b hp hb => Aw (by kernel_rfl : Am (Tryz.f360.body.getD .skip) = [Ac Tryz.f360 0]) ⟨A25 cx hp, trivial⟩ b hb) (R := ((List Aj) × Unit)) (T := fun (d : Bw Ae0) => P2 d.1) Bc4
def Atw : As := Aq [(true, h_8)] (fun d => (Ady d.1).val) fun r => ([rv (true, h_7) r], [])
theorem A82 : Fn Tryz.prog 240 .plain Atw := mkF [(21, .plain, X0), (360, .plain, Atv)] ⟨Aez, A81, trivial⟩ Tryz.func240 (by kernel_rfl) (by kernel_rfl) (by kernel_rfl) 0 fun d => by kernel_rfl
def Ayl : As := Aq [(true, A2z)] (fun d => (Aij d.1).val) fun r => ([rv (true, Kd) r], [])
theorem Bc5 : Fn Tryz.prog 72 .plain Ayl := mkF [(22, .plain, Jw), (231, .plain, Ayj), (240, .plain, Atw)] ⟨Ke, Bc3, A82, trivial⟩ Tryz.func72 (by kernel_rfl) (by kernel_rfl) (by kernel_rfl) 0 fun d => by kernel_rfl
def Atx : As := Aq [(true, D5)] (fun d => (Ad0 d.1).val) fun r => ([rv (true, D5) r], [])
theorem A83 : Fn Tryz.prog 62 .plain Atx := mkF [(22, .plain, Jw)] ⟨Ke, trivial⟩ Tryz.func62 (by kernel_rfl) (by kernel_rfl) (by kernel_rfl) 0 fun d => by kernel_rfl
def Akf : As := Aq [(true, [.int .i64, .sl 3 [.int .i64]])] (fun d => (Aya d.1).val) fun r => ([rv (true, [.int .i64, .sl 3 [.int .i64]]) r], [])
theorem Ae2 : Fn Tryz.prog 427 .plain Akf := mkF [] trivial Tryz.func427 (by kernel_rfl) (by kernel_rfl) (by kernel_rfl) 0 fun d => by kernel_rfl
def S1 : As := Aq [(true, h_6)] (fun d => (Ail d.1).val) fun r => ([rv (true, h_6) r], [])
theorem Vi : Fn Tryz.prog 390 .plain S1 := mkF [(427, .plain, Akf)] ⟨Ae2, trivial⟩ Tryz.func390 (by kernel_rfl) (by kernel_rfl) (by kernel_rfl) 0 fun d => by kernel_rfl
def A5h : As := Aq [(true, h_6), (false, [.bool])] (fun d => (Aok d.1 d.2.1).val) fun r => ([rv (true, h_6) r], [])
theorem Bgr : Fn Tryz.prog 391 .plain A5h := mkF [(390, .plain, S1)] ⟨Vi, trivial⟩ Tryz.func391 (by kernel_rfl) (by kernel_rfl) (by kernel_rfl) 0 fun d => by kernel_rfl
def Jx : As := Aq [(true, Dd)] (fun d => (Ad1 d.1).val) fun r => ([rv (true, Dd) r], [])
theorem Kf : Fn Tryz.prog 310 .plain Jx := mkF [(390, .plain, S1), (391, .plain, A5h)] ⟨Vi, Bgr, trivial⟩ Tryz.func310 (by kernel_rfl) (by kernel_rfl) (by kernel_rfl) 0 fun d => by kernel_rfl
def Qe : As := Aq [(true, h_5)] (fun d => (Ad2 d.1).val) fun r => ([rv (true, h_5) r], [])
theorem F7 : Fn Tryz.prog 346 .plain Qe := mkF [] trivial Tryz.func346 (by kernel_rfl) (by kernel_rfl) (by kernel_rfl) 0 fun d => by kernel_rfl
def Ae3 : List (Bool × List Sh) := [(true, h_7)]
def Aty (r : (A6)) : List RV × List RV := ([rv (true, h_7) r], [])
def Mf : Fns := [(346, .plain, Qe)]
def Qf : As := Aq Ae3 (fun d => (P3 d.1).val) Aty
def Amw : Sk := ⟨[(1, .box 1 0), (2, .box 2 0), (3, .box 3 0), (4, .v false [(.int .i64, .nil)])], [(1, [(.int .i64, .nil), (.int .i64, .nil), (.sl 311 h_5, .ro)]), (2, [(.int .i64, .nil), (.int .i64, .nil), (.sl 311 h_5, (.own 4000000))]), (3, [(.int .i64, .nil), (.int .i64, .nil), (.sl 311 h_5, (.own 4000001))])], [4000000, 4000001]⟩
def Amx : List (Ex × Sk) := [((.exit 0), ⟨[(2, .box 2 0), (3, .box 3 0)], [(2, [(.int .i64, .nil), (.int .i64, .nil), (.sl 311 h_5, (.own 4000000))]), (3, [(.int .i64, .nil), (.int .i64, .nil), (.sl 311 h_5, (.own 4000001))])], [4000000, 4000001]⟩)]
def Ae4 : Bl := fun i st => cond (Nat.beq i 3) (lam Amw 4000000 Amx Gr st) <| .fail
theorem A26 : ∀ d, bod ⟨Az tys, Ax Mf, Ap Mf, 3, 4⟩ 0 Tryz.f342.ntmps Ae4 (Ac Tryz.f342 0) Amw 4000000 Amx d = Gr d := fun d => by kernel_rfl
theorem A27 (cx : Cx) (hp : cx.pin.length ≤ 0) : Bf Tryz.prog cx Tryz.f342.ntmps Ae4 (Ac Tryz.f342 0) := Bc (Al A2 Au (show A0 Tryz.prog Mf from ⟨F7, trivial⟩)) hp (Aw (by kernel_rfl : Am (Ac Tryz.f342 0) = []) trivial) (by kernel_rfl) A26
theorem Bc6 : ∀ d, Bn ⟨Az tys, Ax Mf, Ap Mf, 3, 4⟩ 0 Ae4 Tryz.f342 .plain (mkA Ae3 d) = (P3 d.1).run fun r => some (Aty r) := fun d => by kernel_rfl
theorem H7 : Fn Tryz.prog 342 .plain Qf := Br (Al A2 Au (show A0 Tryz.prog Mf from ⟨F7, trivial⟩)) Tryz.func342 (by kernel_rfl) (by kernel_rfl) (fun cx b hp hb => Aw (by kernel_rfl : Am (Tryz.f342.body.getD .skip) = [Ac Tryz.f342 0]) ⟨A27 cx hp, trivial⟩ b hb) (R := (A6)) (T := fun (d : Bw Ae3) => P3 d.1) Bc6
def Atz : As := Aq [(true, Kd)] (fun d => (Ad3 d.1).val) fun r => ([rv (true, Kd) r], [])
theorem A84 : Fn Tryz.prog 210 .plain Atz := mkF [(310, .plain, Jx), (342, .plain, Qf)] ⟨Kf, H7, trivial⟩ Tryz.func210 (by kernel_rfl) (by kernel_rfl) (by kernel_rfl) 0 fun d => by kernel_rfl
def Cy : As := Aq [(false, [.int .i64]), (false, [.int .i64]), (false, [.int .i64])] (fun d => (Avg d.1 d.2.1 d.2.2.1).val) fun r => ([rv (false, [.bool]) r], [])
theorem B0 : Fn Tryz.prog 94 .plain Cy := mkF [] trivial Tryz.func94 (by kernel_rfl) (by kernel_rfl) (by kernel_rfl) 0 fun d => by kernel_rfl
def Ae5 : As := Aq [(true, h_6)] (fun d => (Ad5 d.1).val) fun r => ([rv (false, [.bool]) r], [])
theorem Aoy : Fn Tryz.prog 327 .plain Ae5 := mkF [] trivial Tryz.func327 (by kernel_rfl) (by kernel_rfl) (by kernel_rfl) 0 fun d => by kernel_rfl
def Amy : As := Aq [(true, Dd)] (fun d => (Wg d.1).val) fun r => ([rv (false, [.bool]) r], [])
theorem A28 : Fn Tryz.prog 194 .plain Amy := mkF [(327, .plain, Ae5)] ⟨Aoy, trivial⟩ Tryz.func194 (by kernel_rfl) (by kernel_rfl) (by kernel_rfl) 0 fun d => by kernel_rfl
def A85 : As := Aq [(false, [.int .i64])] (fun d => (Avh d.1).val) fun r => ([rv (true, [.int .i64, .int .i64]) r], [])
theorem Bi3 : Fn Tryz.prog 221 .plain A85 := mkF [(94, .plain, Cy)] ⟨B0, trivial⟩ Tryz.func221 (by kernel_rfl) (by kernel_rfl) (by kernel_rfl) 0 fun d => by kernel_rfl
def Aoz : As := Aq [(true, [.int .i64, .sl 3 [.int .i64]]), (false, [.int .i64])] (fun d => (Aom d.1 d.2.1).val) fun r => ([rv (false, [.bool]) r], [])
theorem X1 : Fn Tryz.prog 432 .plain Aoz := mkF [] trivial Tryz.func432 (by kernel_rfl) (by kernel_rfl) (by kernel_rfl) 0 fun d => by kernel_rfl
def Ao0 : List (Bool × List Sh) := [(true, [.int .i64, .sl 3 [.int .i64]])]
def A5i (r : (Bool × Unit)) : List RV × List RV := ([rv (false, [.bool]) r], [])
def Jc : Fns := [(94, .plain, Cy), (432, .plain, Aoz)]
def Ao1 : As := Aq Ao0 (fun d => (Vu d.1).val) A5i
def Ao2 : Sk := ⟨[(1, .box 1 0), (4, .v false [(.int .i64, .nil)])], [(1, [(.int .i64, .nil), (.sl 3 [.int .i64], .ro)])], []⟩
def Ao3 : List (Ex × Sk) := [(.ret, ⟨[(2, .v false [(.bool, .nil)])], [], []⟩), ((.exit 2), ⟨[], [], []⟩)]
def At0 : Sk := ⟨[(1, .box 1 0), (3, .v false [(.int .i64, .nil)])], [(1, [(.int .i64, .nil), (.sl 3 [.int .i64], .ro)])], []⟩
def At1 : List (Ex × Sk) := [(.ret, ⟨[(2, .v false [(.bool, .nil)])], [], []⟩), ((.exit 0), ⟨[(1, .box 1 0)], [(1, [(.int .i64, .nil), (.sl 3 [.int .i64], .ro)])], []⟩)]
def V0 : Bl := fun i st => cond (Nat.beq i 4) (lam At0 5000000 At1 Jr st) <| cond (Nat.beq i 11) (lam Ao2 12000000 Ao3 F5 st) <| .fail
theorem A86 : ∀ d, bod ⟨Az tys, Ax Jc, Ap Jc, 3, 4⟩ 0 Tryz.f400.ntmps V0 (Ac Tryz.f400 0) At0 5000000 At1 d = Jr d := fun d => by kernel_rfl
theorem A87 (cx : Cx) (hp : cx.pin.length ≤ 0) : Bf Tryz.prog cx Tryz.f400.ntmps V0 (Ac Tryz.f400 0) := Bc (Al A2 Au (show A0 Tryz.prog Jc from ⟨B0, X1, trivial⟩)) hp (Aw (by kernel_rfl : Am (Ac Tryz.f400 0) = []) trivial) (by kernel_rfl) A86
theorem A63 : ∀ d, bod ⟨Az tys, Ax Jc, Ap Jc, 3, 4⟩ 0 Tryz.f400.ntmps V0 (Ac Tryz.f400 1) Ao2 12000000 Ao3 d = F5 d := fun d => by kernel_rfl
theorem A64 (cx : Cx) (hp : cx.pin.length ≤ 0) : Bf Tryz.prog cx Tryz.f400.ntmps V0 (Ac Tryz.f400 1) := Bc (Al A2 Au (show A0 Tryz.prog Jc from ⟨B0, X1, trivial⟩)) hp (Aw (by kernel_rfl : Am (Ac Tryz.f400 1) = []) trivial) (by kernel_rfl) A63
theorem Bi4 : ∀ d, Bn ⟨Az tys, Ax Jc, Ap Jc, 3, 4⟩ 0 V0 Tryz.f400 .plain (mkA Ao0 d) = (Vu d.1).run fun r => some (A5i r) := fun d => by kernel_rfl
theorem Aym : Fn Tryz.prog 400 .plain Ao1 := Br (Al A2 Au (show A0 Tryz.prog Jc from ⟨B0, X1, trivial⟩)) Tryz.func400 (by kernel_rfl) (by kernel_rfl) (fun cx b hp hb => Aw (by kernel_rfl : Am (Tryz.f400.body.getD .skip) = [Ac Tryz.f400 0, Ac Tryz.f400 1]) ⟨A87 cx hp, A64 cx hp, trivial⟩ b hb) (R := (Bool × Unit)) (T := fun (d : Bw Ao0) => Vu d.1) Bi4
def Akg : As := Aq [(true, h_6)] (fun d => (Avj d.1).val) fun r => ([rv (false, [.bool]) r], [])
theorem Ao4 : Fn Tryz.prog 328 .plain Akg := mkF [(94, .plain, Cy), (400, .plain, Ao1)] ⟨B0, Aym, trivial⟩ Tryz.func328 (by kernel_rfl) (by kernel_rfl) (by kernel_rfl) 0 fun d => by kernel_rfl
def Jd : As := Aq [(true, Dd)] (fun d => (Aim d.1).val) fun r => ([rv (false, [.bool]) r], [])
theorem Jy : Fn Tryz.prog 195 .plain Jd := mkF [(94, .plain, Cy), (328, .plain, Akg), (327, .plain, Ae5)] ⟨B0, Ao4, Aoy, trivial⟩ Tryz.func195 (by kernel_rfl) (by kernel_rfl) (by kernel_rfl) 0 fun d => by kernel_rfl
def S2 : As := Aq [(false, [.sl 5 [.int .u8]]), (false, [.sl 5 [.int .u8]])] (fun d => (Ayb d.1 d.2.1).val) fun r => ([rv (false, [.bool]) r], [])
theorem Qg : Fn Tryz.prog 112 .plain S2 := mkF [] trivial Tryz.func112 (by kernel_rfl) (by kernel_rfl) (by kernel_rfl) 0 fun d => by kernel_rfl
def X3 : As := Aq [(true, [.int .i64, .int .i64])] (fun d => (Ain d.1).val) fun r => ([rv (false, [.bool]) r], [])
theorem Mg : Fn Tryz.prog 95 .plain X3 := mkF [(94, .plain, Cy)] ⟨B0, trivial⟩ Tryz.func95 (by kernel_rfl) (by kernel_rfl) (by kernel_rfl) 0 fun d => by kernel_rfl
def Ae6 : List (Bool × List Sh) := [(true, h_7)]
def At2 (r : (Bool × Unit)) : List RV × List RV := ([rv (false, [.bool]) r], [])
def Fy : Fns := [(95, .plain, X3), (94, .plain, Cy)]
def Qh : As := Aq Ae6 (fun d => (P5 d.1).val) At2
def Amz : Sk := ⟨[(1, .box 1 0), (3, .v false [(.int .i64, .nil)])], [(1, [(.int .i64, .nil), (.int .i64, .nil), (.sl 311 h_5, .ro)])], []⟩
def Am0 : List (Ex × Sk) := [(.ret, ⟨[(2, .v false [(.bool, .nil)])], [], []⟩), ((.exit 0), ⟨[], [], []⟩)]
def Agk : Sk := ⟨[(1, .box 1 0), (3, .v false [(.int .i64, .nil)]), (4, .box 4 0), (5, .v false [(.int .i64, .nil)])], [(1, [(.int .i64, .nil), (.int .i64, .nil), (.sl 311 h_5, .ro)]), (4, [(.int .i64, .nil), (.int .i64, .nil), (.sl 5 [.int .u8], .ro), (.int .i64, .nil)])], []⟩
def Agl : List (Ex × Sk) := [(.ret, ⟨[(2, .v false [(.bool, .nil)])], [], []⟩), ((.exit 2), ⟨[(1, .box 1 0), (3, .v false [(.int .i64, .nil)])], [(1, [(.int .i64, .nil), (.int .i64, .nil), (.sl 311 h_5, .ro)])], []⟩)]
def Qi : Bl := fun i st => cond (Nat.beq i 10) (lam Agk 11000000 Agl Fm st) <| cond (Nat.beq i 4) (lam Amz 5000000 Am0 Il st) <| .fail
theorem Ayn : ∀ d, bod ⟨Az tys, Ax Fy, Ap Fy, 3, 4⟩ 0 Tryz.f222.ntmps Qi (Ac Tryz.f222 1) Agk 11000000 Agl d = Fm d := fun d => by kernel_rfl
theorem Ayo (cx : Cx) (hp : cx.pin.length ≤ 0) : Bf Tryz.prog cx Tryz.f222.ntmps Qi (Ac Tryz.f222 1) := Bc (Al A2 Au (show A0 Tryz.prog Fy from ⟨Mg, B0, trivial⟩)) hp (Aw (by kernel_rfl : Am (Ac Tryz.f222 1) = []) trivial) (by kernel_rfl) Ayn
theorem A29 : ∀ d, bod ⟨Az tys, Ax Fy, Ap Fy, 3, 4⟩ 0 Tryz.f222.ntmps Qi (Ac Tryz.f222 0) Amz 5000000 Am0 d = Il d := fun d => by kernel_rfl
theorem A3a (cx : Cx) (hp : cx.pin.length ≤ 0) : Bf Tryz.prog cx Tryz.f222.ntmps Qi (Ac Tryz.f222 0) := Bc (Al A2 Au (show A0 Tryz.prog Fy from ⟨Mg, B0, trivial⟩)) hp (Aw (by kernel_rfl : Am (Ac Tryz.f222 0) = [Ac Tryz.f222 1]) ⟨Ayo cx hp, trivial⟩) (by kernel_rfl) A29
theorem Bc7 : ∀ d, Bn ⟨Az tys, Ax Fy, Ap Fy, 3, 4⟩ 0 Qi Tryz.f222 .plain (mkA Ae6 d) = (P5 d.1).run fun r => some (At2 r) := fun d => by kernel_rfl
theorem H8 : Fn Tryz.prog 222 .plain Qh := Br (Al A2 Au (show A0 Tryz.prog Fy from ⟨Mg, B0, trivial⟩)) Tryz.func222 (by kernel_rfl) (by kernel_rfl) (fun cx b hp hb => Aw (by kernel_rfl : Am (Tryz.f222.body.getD .skip) = [Ac Tryz.f222 0]) ⟨A3a cx hp, trivial⟩ b hb) (R := (Bool × Unit)) (T := fun (d : Bw Ae6) => P5 d.1) Bc7
def Ayp : As := Aq [(true, Kd)] (fun d => (Aio d.1).val) fun r => ([rv (false, [.bool]) r], [])
theorem Bc8 : Fn Tryz.prog 51 .plain Ayp := mkF [(94, .plain, Cy), (194, .plain, Amy), (221, .plain, A85), (195, .plain, Jd), (112, .plain, S2), (222, .plain, Qh)] ⟨B0, A28, Bi3, Jy, Qg, H8, trivial⟩ Tryz.func51 (by kernel_rfl) (by kernel_rfl) (by kernel_rfl) 0 fun d => by kernel_rfl
def O9 : As := Aq [(false, [.int .i64])] (fun d => (Aiq d.1).val) fun r => ([rv (false, [.bool]) r], [])
theorem Mh : Fn Tryz.prog 114 .plain O9 := mkF [(94, .plain, Cy)] ⟨B0, trivial⟩ Tryz.func114 (by kernel_rfl) (by kernel_rfl) (by kernel_rfl) 0 fun d => by kernel_rfl
def X4 : As := Aq [(false, [.int .i64]), (false, [.int .i64])] (fun d => (Air d.1 d.2.1).val) fun r => ([rv (false, [.bool]) r], [])
theorem Vj : Fn Tryz.prog 329 .plain X4 := mkF [] trivial Tryz.func329 (by kernel_rfl) (by kernel_rfl) (by kernel_rfl) 0 fun d => by kernel_rfl
def Ae7 : As := Aq [(true, D5)] (fun d => (Ad6 d.1).val) fun r => ([rv (false, [.bool]) r], [])
theorem Ao5 : Fn Tryz.prog 196 .plain Ae7 := mkF [(114, .plain, O9), (94, .plain, Cy), (329, .plain, X4)] ⟨Mh, B0, Vj, trivial⟩ Tryz.func196 (by kernel_rfl) (by kernel_rfl) (by kernel_rfl) 0 fun d => by kernel_rfl
def Av3 : List (Bool × List Sh) := [(false, [.sl 5 [.int .u8]]), (false, [.int .i64]), (false, [.int .i64])]
def A88 (r : (YBs)) : List RV × List RV := ([rv (false, [.sl 5 [.int .u8]]) r], [])
def Ue : Fns := []
def Uf : As := Aq Av3 (fun d => (Zt d.1 d.2.1 d.2.2.1).val) A88
def Ayq : Sk := ⟨[(1, .v false [(.int .i64, .nil)]), (7, .v false [(.sl 5 [.int .u8], (.own 6000000))]), (8, .v false [(.int .i64, .nil)])], [], [6000000]⟩
def Ayr : List (Ex × Sk) := [((.exit 0), ⟨[(7, .v false [(.sl 5 [.int .u8], (.own 6000000))])], [], [6000000]⟩)]
def Av4 : Bl := fun i st => cond (Nat.beq i 5) (lam Ayq 6000000 Ayr Oo st) <| .fail
theorem Bc9 : ∀ d, bod ⟨Az tys, Ax Ue, Ap Ue, 3, 4⟩ 0 Tryz.f282.ntmps Av4 (Ac Tryz.f282 0) Ayq 6000000 Ayr d = Oo d := fun d => by kernel_rfl
theorem Bda (cx : Cx) (hp : cx.pin.length ≤ 0) : Bf Tryz.prog cx Tryz.f282.ntmps Av4 (Ac Tryz.f282 0) := Bc (Al A2 Au (show A0 Tryz.prog Ue from trivial)) hp (Aw (by kernel_rfl : Am (Ac Tryz.f282 0) = []) trivial) (by kernel_rfl) Bc9
theorem Blj : ∀ d, Bn ⟨Az tys, Ax Ue, Ap Ue, 3, 4⟩ 0 Av4 Tryz.f282 .plain (mkA Av3 d) = (Zt d.1 d.2.1 d.2.2.1).run fun r => some (A88 r) := fun d => by kernel_rfl
theorem Ns : Fn Tryz.prog 282 .plain Uf := Br (Al A2 Au (show A0 Tryz.prog Ue from trivial)) Tryz.func282 (by kernel_rfl) (by kernel_rfl) (fun cx b hp hb => Aw (by kernel_rfl : Am (Tryz.f282.body.getD .skip) = [Ac Tryz.f282 0]) ⟨Bda cx hp, trivial⟩ b hb) (R := (YBs)) (T := fun (d : Bw Av3) => Zt d.1 d.2.1 d.2.2.1) Blj
def S3 : As := Aq [(false, [.int .i64]), (false, [.sl 5 [.int .u8]]), (false, [.int .i64]), (false, [.int .i64])] (fun d => (Ais d.1 d.2.1 d.2.2.1 d.2.2.2.1).val) fun r => ([rv (false, [.sl 5 [.int .u8]]) r], [])
theorem Qj : Fn Tryz.prog 344 .plain S3 := mkF [(94, .plain, Cy), (282, .plain, Uf)] ⟨B0, Ns, trivial⟩ Tryz.func344 (by kernel_rfl) (by kernel_rfl) (by kernel_rfl) 0 fun d => by kernel_rfl
def Kg : As := Aq [(false, [.int .i64]), (true, D5)] (fun d => (Zu d.1 d.2.1).val) fun r => ([rv (false, [.sl 5 [.int .u8]]) r], [])
theorem Iw : Fn Tryz.prog 213 .plain Kg := mkF [(94, .plain, Cy), (196, .plain, Ae7), (114, .plain, O9), (344, .plain, S3)] ⟨B0, Ao5, Mh, Qj, trivial⟩ Tryz.func213 (by kernel_rfl) (by kernel_rfl) (by kernel_rfl) 0 fun d => by kernel_rfl
def At3 : As := Aq [(false, [.int .i64])] (fun d => (Ad7 d.1).val) fun r => ([rv (false, [.int .i64]) r], [])
theorem A89 : Fn Tryz.prog 435 .plain At3 := mkF [] trivial Tryz.func435 (by kernel_rfl) (by kernel_rfl) (by kernel_rfl) 0 fun d => by kernel_rfl
def Akh : As := Aq [(true, [.int .i64, .sl 3 [.int .i64]]), (false, [.int .i64])] (fun d => (Ait d.1 d.2.1).val) fun r => ([rv (false, [.bool]) r], [])
theorem Ae8 : Fn Tryz.prog 406 .plain Akh := mkF [(400, .plain, Ao1), (94, .plain, Cy), (435, .plain, At3), (432, .plain, Aoz)] ⟨Aym, B0, A89, X1, trivial⟩ Tryz.func406 (by kernel_rfl) (by kernel_rfl) (by kernel_rfl) 0 fun d => by kernel_rfl
def A3b : List (Bool × List Sh) := [(false, [.int .i64])]
def Bfb (r : (YBs)) : List RV × List RV := ([rv (false, [.sl 5 [.int .u8]]) r], [])
def Zf : Fns := [(282, .plain, Uf)]
def Bfc : As := Aq A3b (fun d => (Af6 d.1).val) Bfb
def A5j : Sk := ⟨[(0, .v false [(.int .i64, .nil)]), (3, .v false [(.sl 5 [.int .u8], (.own 5000000))])], [], [5000000]⟩
def A5k : List (Ex × Sk) := [((.exit 0), ⟨[(0, .v false [(.int .i64, .nil)]), (3, .v false [(.sl 5 [.int .u8], (.own 5000000))])], [], [5000000]⟩)]
def A3c : Bl := fun i st => cond (Nat.beq i 4) (lam A5j 5000000 A5k Ab5 st) <| .fail
theorem Bgs : ∀ d, bod ⟨Az tys, Ax Zf, Ap Zf, 3, 4⟩ 0 Tryz.f444.ntmps A3c (Ac Tryz.f444 0) A5j 5000000 A5k d = Ab5 d := fun d => by kernel_rfl
theorem Bgt (cx : Cx) (hp : cx.pin.length ≤ 0) : Bf Tryz.prog cx Tryz.f444.ntmps A3c (Ac Tryz.f444 0) := Bc (Al A2 Au (show A0 Tryz.prog Zf from ⟨Ns, trivial⟩)) hp (Aw (by kernel_rfl : Am (Ac Tryz.f444 0) = []) trivial) (by kernel_rfl) Bgs
theorem Bnn : ∀ d, Bn ⟨Az tys, Ax Zf, Ap Zf, 3, 4⟩ 0 A3c Tryz.f444 .plain (mkA A3b d) = (Af6 d.1).run fun r => some (Bfb r) := fun d => by kernel_rfl
theorem A9a : Fn Tryz.prog 444 .plain Bfc := Br (Al A2 Au (show A0 Tryz.prog Zf from ⟨Ns, trivial⟩)) Tryz.func444 (by kernel_rfl) (by kernel_rfl) (fun cx b hp hb => Aw (by kernel_rfl : Am (Tryz.f444.body.getD .skip) = [Ac Tryz.f444 0]) ⟨Bgt cx hp, trivial⟩ b hb) (R := (YBs)) (T := fun (d : Bw A3b) => Af6 d.1) Bnn
def A5l : As := Aq [] (fun d => (A5b ).val) fun r => ([rv (false, [.sl 3 [.int .i64]]) r], [])
theorem Ays : Fn Tryz.prog 445 .plain A5l := mkF [] trivial Tryz.func445 (by kernel_rfl) (by kernel_rfl) (by kernel_rfl) 0 fun d => by kernel_rfl
def Ae9 : List (Bool × List Sh) := [(false, [.sl 3 [.int .i64]])]
def At4 (r : (Bool × Unit)) : List RV × List RV := ([rv (false, [.bool]) r], [])
def Mi : Fns := [(94, .plain, Cy)]
def At5 : As := Aq Ae9 (fun d => (P6 d.1).val) At4
def Am1 : Sk := ⟨[(0, .v false [(.sl 3 [.int .i64], .ro)]), (3, .v false [(.int .i64, .nil)])], [], []⟩
def Am2 : List (Ex × Sk) := [(.ret, ⟨[(2, .v false [(.bool, .nil)])], [], []⟩), ((.exit 0), ⟨[(0, .v false [(.sl 3 [.int .i64], .ro)])], [], []⟩)]
def Afa : Bl := fun i st => cond (Nat.beq i 2) (lam Am1 3000000 Am2 Im st) <| .fail
theorem A3d : ∀ d, bod ⟨Az tys, Ax Mi, Ap Mi, 3, 4⟩ 0 Tryz.f453.ntmps Afa (Ac Tryz.f453 0) Am1 3000000 Am2 d = Im d := fun d => by kernel_rfl
theorem A3e (cx : Cx) (hp : cx.pin.length ≤ 0) : Bf Tryz.prog cx Tryz.f453.ntmps Afa (Ac Tryz.f453 0) := Bc (Al A2 Au (show A0 Tryz.prog Mi from ⟨B0, trivial⟩)) hp (Aw (by kernel_rfl : Am (Ac Tryz.f453 0) = []) trivial) (by kernel_rfl) A3d
theorem Bdb : ∀ d, Bn ⟨Az tys, Ax Mi, Ap Mi, 3, 4⟩ 0 Afa Tryz.f453 .plain (mkA Ae9 d) = (P6 d.1).run fun r => some (At4 r) := fun d => by kernel_rfl
theorem Aat : Fn Tryz.prog 453 .plain At5 := Br (Al A2 Au (show A0 Tryz.prog Mi from ⟨B0, trivial⟩)) Tryz.func453 (by kernel_rfl) (by kernel_rfl) (fun cx b hp hb => Aw (by kernel_rfl : Am (Tryz.f453.body.getD .skip) = [Ac Tryz.f453 0]) ⟨A3e cx hp, trivial⟩ b hb) (R := (Bool × Unit)) (T := fun (d : Bw Ae9) => P6 d.1) Bdb
def Bfd : As := Aq [] (fun d => (Be9 ).val) fun r => ([rv (false, [.sl 3 [.int .i64]]) r], [])
theorem Av5 : Fn Tryz.prog 454 .plain Bfd := mkF [] trivial Tryz.func454 (by kernel_rfl) (by kernel_rfl) (by kernel_rfl) 0 fun d => by kernel_rfl
def Av6 : List (Bool × List Sh) := [(false, [.sl 5 [.int .u8]]), (false, [.int .i64]), (false, [.int .i64])]
def A9b (r : (YI) × (YI) × (Bool × Unit)) : List RV × List RV := ([rv (false, [.int .i64]) r.1, rv (false, [.int .i64]) r.2.1, rv (false, [.bool]) r.2.2], [])
def Ug : Fns := []
def A9c : As := Aq Av6 (fun d => (Zv d.1 d.2.1 d.2.2.1).val) A9b
def Ayt : Sk := ⟨[(0, .v false [(.sl 5 [.int .u8], .ro)]), (1, .v false [(.int .i64, .nil)]), (2, .v false [(.int .i64, .nil)]), (9, .v false [(.int .i64, .nil)]), (10, .v false [(.int .i64, .nil)])], [], []⟩
def Ayu : List (Ex × Sk) := [((.exit 0), ⟨[(1, .v false [(.int .i64, .nil)]), (2, .v false [(.int .i64, .nil)]), (9, .v false [(.int .i64, .nil)])], [], []⟩)]
def Av7 : Bl := fun i st => cond (Nat.beq i 5) (lam Ayt 6000000 Ayu Lf st) <| .fail
theorem Bdc : ∀ d, bod ⟨Az tys, Ax Ug, Ap Ug, 3, 4⟩ 0 Tryz.f276.ntmps Av7 (Ac Tryz.f276 0) Ayt 6000000 Ayu d = Lf d := fun d => by kernel_rfl
theorem Bdd (cx : Cx) (hp : cx.pin.length ≤ 0) : Bf Tryz.prog cx Tryz.f276.ntmps Av7 (Ac Tryz.f276 0) := Bc (Al A2 Au (show A0 Tryz.prog Ug from trivial)) hp (Aw (by kernel_rfl : Am (Ac Tryz.f276 0) = []) trivial) (by kernel_rfl) Bdc
theorem Blk : ∀ d, Bn ⟨Az tys, Ax Ug, Ap Ug, 3, 4⟩ 0 Av7 Tryz.f276 .plain (mkA Av6 d) = (Zv d.1 d.2.1 d.2.2.1).run fun r => some (A9b r) := fun d => by kernel_rfl
theorem Ao6 : Fn Tryz.prog 276 .plain A9c := Br (Al A2 Au (show A0 Tryz.prog Ug from trivial)) Tryz.func276 (by kernel_rfl) (by kernel_rfl) (fun cx b hp hb => Aw (by kernel_rfl : Am (Tryz.f276.body.getD .skip) = [Ac Tryz.f276 0]) ⟨Bdd cx hp, trivial⟩ b hb) (R := (YI) × (YI) × (Bool × Unit)) (T := fun (d : Bw Av6) => Zv d.1 d.2.1 d.2.2.1) Blk
def A3f : As := Aq [(false, [.int .i64]), (false, [.int .i64])] (fun d => (A2p d.1 d.2.1).val) fun r => ([rv (false, [.int .i64]) r], [])
theorem Uh : Fn Tryz.prog 456 .plain A3f := mkF [] trivial Tryz.func456 (by kernel_rfl) (by kernel_rfl) (by kernel_rfl) 0 fun d => by kernel_rfl
def Aau : List (Bool × List Sh) := [(false, [.sl 5 [.int .u8]])]
def Ao7 (r : ((List YI) × Unit)) : List RV × List RV := ([rv (false, [.sl 3 [.int .i64]]) r], [])
def E8 : Fns := [(276, .plain, A9c), (456, .plain, A3f)]
def Ao8 : As := Aq Aau (fun d => (M4 d.1).val) Ao7
def Acf : Sk := ⟨[(3, .v false [(.sl 3 [.int .i64], (.own 11000000))]), (8, .v false [(.int .i64, .nil)])], [], [11000000]⟩
def Acg : List (Ex × Sk) := [((.exit 2), ⟨[(3, .v false [(.sl 3 [.int .i64], (.own 11000000))])], [], [11000000]⟩)]
def Agm : Sk := ⟨[(0, .v false [(.sl 5 [.int .u8], .ro)]), (3, .v false [(.sl 3 [.int .i64], (.own 6000000))]), (4, .v false [(.int .i64, .nil)])], [], [6000000]⟩
def Agn : List (Ex × Sk) := [((.exit 0), ⟨[(3, .v false [(.sl 3 [.int .i64], (.own 6000000))])], [], [6000000]⟩)]
def Nt : Bl := fun i st => cond (Nat.beq i 5) (lam Agm 6000000 Agn Hi st) <| cond (Nat.beq i 10) (lam Acf 11000000 Acg Gc st) <| .fail
theorem Ayv : ∀ d, bod ⟨Az tys, Ax E8, Ap E8, 3, 4⟩ 0 Tryz.f455.ntmps Nt (Ac Tryz.f455 0) Agm 6000000 Agn d = Hi d := fun d => by kernel_rfl
theorem Ayw (cx : Cx) (hp : cx.pin.length ≤ 0) : Bf Tryz.prog cx Tryz.f455.ntmps Nt (Ac Tryz.f455 0) := Bc (Al A2 Au (show A0 Tryz.prog E8 from ⟨Ao6, Uh, trivial⟩)) hp (Aw (by kernel_rfl : Am (Ac Tryz.f455 0) = []) trivial) (by kernel_rfl) Ayv
theorem Av8 : ∀ d, bod ⟨Az tys, Ax E8, Ap E8, 3, 4⟩ 0 Tryz.f455.ntmps Nt (Ac Tryz.f455 1) Acf 11000000 Acg d = Gc d := fun d => by kernel_rfl
theorem Av9 (cx : Cx) (hp : cx.pin.length ≤ 0) : Bf Tryz.prog cx Tryz.f455.ntmps Nt (Ac Tryz.f455 1) := Bc (Al A2 Au (show A0 Tryz.prog E8 from ⟨Ao6, Uh, trivial⟩)) hp (Aw (by kernel_rfl : Am (Ac Tryz.f455 1) = []) trivial) (by kernel_rfl) Av8
theorem A9d : ∀ d, Bn ⟨Az tys, Ax E8, Ap E8, 3, 4⟩ 0 Nt Tryz.f455 .plain (mkA Aau d) = (M4 d.1).run fun r => some (Ao7 r) := fun d => by kernel_rfl
theorem Wy : Fn Tryz.prog 455 .plain Ao8 := Br (Al A2 Au (show A0 Tryz.prog E8 from ⟨Ao6, Uh, trivial⟩)) Tryz.func455 (by kernel_rfl) (by kernel_rfl) (fun cx b hp hb => Aw (by kernel_rfl : Am (Tryz.f455.body.getD .skip) = [Ac Tryz.f455 0, Ac Tryz.f455 1]) ⟨Ayw cx hp, Av9 cx hp, trivial⟩ b hb) (R := ((List YI) × Unit)) (T := fun (d : Bw Aau) => M4 d.1) A9d
def Aav : List (Bool × List Sh) := [(false, [.sl 3 [.int .i64]]), (false, [.sl 5 [.int .u8]])]
def Ao9 (r : ((List YI) × Unit)) : List RV × List RV := ([rv (false, [.sl 3 [.int .i64]]) r], [])
def E9 : Fns := [(453, .plain, At5), (454, .plain, Bfd), (455, .plain, Ao8), (456, .plain, A3f)]
def Apa : As := Aq Aav (fun d => (M5 d.1 d.2.1).val) Ao9
def Ach : Sk := ⟨[(0, .v false [(.sl 3 [.int .i64], .ro)]), (5, .v false [(.sl 3 [.int .i64], (.own 23000000))]), (19, .v false [(.sl 3 [.int .i64], (.own 23000001))]), (20, .v false [(.int .i64, .nil)])], [], [23000000, 23000001]⟩
def Aci : List (Ex × Sk) := [((.exit 2), ⟨[(5, .v false [(.sl 3 [.int .i64], (.own 23000000))])], [], [23000000]⟩)]
def Ago : Sk := ⟨[(0, .v false [(.sl 3 [.int .i64], .ro)]), (5, .v false [(.sl 3 [.int .i64], (.own 9000000))]), (6, .v false [(.sl 3 [.int .i64], (.own 9000001))]), (7, .v false [(.sl 3 [.int .i64], (.own 9000002))]), (8, .v false [(.int .i64, .nil)]), (9, .v false [(.int .i64, .nil)]), (10, .v false [(.int .i64, .nil)]), (11, .v false [(.int .i64, .nil)]), (12, .v false [(.int .i64, .nil)]), (13, .v false [(.int .i64, .nil)]), (14, .v false [(.int .i64, .nil)]), (15, .v false [(.int .i64, .nil)]), (16, .v false [(.int .i64, .nil)])], [], [9000000, 9000001, 9000002]⟩
def Agp : List (Ex × Sk) := [((.exit 0), ⟨[(0, .v false [(.sl 3 [.int .i64], .ro)]), (5, .v false [(.sl 3 [.int .i64], (.own 9000000))]), (8, .v false [(.int .i64, .nil)]), (9, .v false [(.int .i64, .nil)]), (10, .v false [(.int .i64, .nil)]), (11, .v false [(.int .i64, .nil)]), (12, .v false [(.int .i64, .nil)]), (13, .v false [(.int .i64, .nil)]), (14, .v false [(.int .i64, .nil)]), (15, .v false [(.int .i64, .nil)])], [], [9000000]⟩)]
def Nu : Bl := fun i st => cond (Nat.beq i 8) (lam Ago 9000000 Agp Fo st) <| cond (Nat.beq i 22) (lam Ach 23000000 Aci E0 st) <| .fail
theorem Ayx : ∀ d, bod ⟨Az tys, Ax E9, Ap E9, 3, 4⟩ 0 Tryz.f446.ntmps Nu (Ac Tryz.f446 0) Ago 9000000 Agp d = Fo d := fun d => by kernel_rfl
theorem Ayy (cx : Cx) (hp : cx.pin.length ≤ 0) : Bf Tryz.prog cx Tryz.f446.ntmps Nu (Ac Tryz.f446 0) := Bc (Al A2 Au (show A0 Tryz.prog E9 from ⟨Aat, Av5, Wy, Uh, trivial⟩)) hp (Aw (by kernel_rfl : Am (Ac Tryz.f446 0) = []) trivial) (by kernel_rfl) Ayx
theorem Awa : ∀ d, bod ⟨Az tys, Ax E9, Ap E9, 3, 4⟩ 0 Tryz.f446.ntmps Nu (Ac Tryz.f446 1) Ach 23000000 Aci d = E0 d := fun d => by kernel_rfl
theorem Awb (cx : Cx) (hp : cx.pin.length ≤ 0) : Bf Tryz.prog cx Tryz.f446.ntmps Nu (Ac Tryz.f446 1) := Bc (Al A2 Au (show A0 Tryz.prog E9 from ⟨Aat, Av5, Wy, Uh, trivial⟩)) hp (Aw (by kernel_rfl : Am (Ac Tryz.f446 1) = []) trivial) (by kernel_rfl) Awa
theorem A9e : ∀ d, Bn ⟨Az tys, Ax E9, Ap E9, 3, 4⟩ 0 Nu Tryz.f446 .plain (mkA Aav d) = (M5 d.1 d.2.1).run fun r => some (Ao9 r) := fun d => by kernel_rfl
theorem Am3 : Fn Tryz.prog 446 .plain Apa := Br (Al A2 Au (show A0 Tryz.prog E9 from ⟨Aat, Av5, Wy, Uh, trivial⟩)) Tryz.func446 (by kernel_rfl) (by kernel_rfl) (fun cx b hp hb => Aw (by kernel_rfl : Am (Tryz.f446.body.getD .skip) = [Ac Tryz.f446 0, Ac Tryz.f446 1]) ⟨Ayy cx hp, Awb cx hp, trivial⟩ b hb) (R := ((List YI) × Unit)) (T := fun (d : Bw Aav) => M5 d.1 d.2.1) A9e
def Apb : List (Bool × List Sh) := [(false, [.sl 3 [.int .i64]])]
def A5m (r : (YBs)) : List RV × List RV := ([rv (false, [.sl 5 [.int .u8]]) r], [])
def Rf : Fns := [(282, .plain, Uf)]
def A5n : As := Aq Apb (fun d => (Vv d.1).val) A5m
def At6 : Sk := ⟨[(0, .v false [(.sl 3 [.int .i64], .ro)]), (3, .v false [(.sl 5 [.int .u8], (.own 4000000))]), (4, .v false [(.int .i64, .nil)])], [], [4000000]⟩
def At7 : List (Ex × Sk) := [((.exit 0), ⟨[(3, .v false [(.sl 5 [.int .u8], (.own 4000000))])], [], [4000000]⟩)]
def Apc : Bl := fun i st => cond (Nat.beq i 3) (lam At6 4000000 At7 Js st) <| .fail
theorem A9f : ∀ d, bod ⟨Az tys, Ax Rf, Ap Rf, 3, 4⟩ 0 Tryz.f447.ntmps Apc (Ac Tryz.f447 0) At6 4000000 At7 d = Js d := fun d => by kernel_rfl
theorem A9g (cx : Cx) (hp : cx.pin.length ≤ 0) : Bf Tryz.prog cx Tryz.f447.ntmps Apc (Ac Tryz.f447 0) := Bc (Al A2 Au (show A0 Tryz.prog Rf from ⟨Ns, trivial⟩)) hp (Aw (by kernel_rfl : Am (Ac Tryz.f447 0) = []) trivial) (by kernel_rfl) A9f
theorem Bi5 : ∀ d, Bn ⟨Az tys, Ax Rf, Ap Rf, 3, 4⟩ 0 Apc Tryz.f447 .plain (mkA Apb d) = (Vv d.1).run fun r => some (A5m r) := fun d => by kernel_rfl
theorem Ayz : Fn Tryz.prog 447 .plain A5n := Br (Al A2 Au (show A0 Tryz.prog Rf from ⟨Ns, trivial⟩)) Tryz.func447 (by kernel_rfl) (by kernel_rfl) (fun cx b hp hb => Aw (by kernel_rfl : Am (Tryz.f447.body.getD .skip) = [Ac Tryz.f447 0]) ⟨A9g cx hp, trivial⟩ b hb) (R := (YBs)) (T := fun (d : Bw Apb) => Vv d.1) Bi5
def A3g : List (Bool × List Sh) := [(false, [.sl 5 [.int .u8]])]
def Bfe (r : (YBs)) : List RV × List RV := ([rv (false, [.sl 5 [.int .u8]]) r], [])
def Zg : Fns := [(444, .plain, Bfc), (445, .plain, A5l), (446, .plain, Apa), (447, .plain, A5n)]
def A3h : As := Aq A3g (fun d => (Af7 d.1).val) Bfe
def A5o : Sk := ⟨[(3, .v false [(.sl 5 [.int .u8], (.own 7000000))]), (4, .v false [(.sl 3 [.int .i64], (.own 7000001))]), (5, .v false [(.int .i64, .nil)])], [], [7000000, 7000001]⟩
def A5p : List (Ex × Sk) := [((.exit 0), ⟨[(4, .v false [(.sl 3 [.int .i64], (.own 7000000))])], [], [7000000]⟩)]
def A3i : Bl := fun i st => cond (Nat.beq i 6) (lam A5o 7000000 A5p M6 st) <| .fail
theorem Bgu : ∀ d, bod ⟨Az tys, Ax Zg, Ap Zg, 3, 4⟩ 0 Tryz.f422.ntmps A3i (Ac Tryz.f422 0) A5o 7000000 A5p d = M6 d := fun d => by kernel_rfl
theorem Bgv (cx : Cx) (hp : cx.pin.length ≤ 0) : Bf Tryz.prog cx Tryz.f422.ntmps A3i (Ac Tryz.f422 0) := Bc (Al A2 Au (show A0 Tryz.prog Zg from ⟨A9a, Ays, Am3, Ayz, trivial⟩)) hp (Aw (by kernel_rfl : Am (Ac Tryz.f422 0) = []) trivial) (by kernel_rfl) Bgu
theorem Bno : ∀ d, Bn ⟨Az tys, Ax Zg, Ap Zg, 3, 4⟩ 0 A3i Tryz.f422 .plain (mkA A3g d) = (Af7 d.1).run fun r => some (Bfe r) := fun d => by kernel_rfl
theorem Aki : Fn Tryz.prog 422 .plain A3h := Br (Al A2 Au (show A0 Tryz.prog Zg from ⟨A9a, Ays, Am3, Ayz, trivial⟩)) Tryz.func422 (by kernel_rfl) (by kernel_rfl) (fun cx b hp hb => Aw (by kernel_rfl : Am (Tryz.f422.body.getD .skip) = [Ac Tryz.f422 0]) ⟨Bgv cx hp, trivial⟩ b hb) (R := (YBs)) (T := fun (d : Bw A3g) => Af7 d.1) Bno
def Aaw : List (Bool × List Sh) := [(false, [.sl 5 [.int .u8]])]
def Apd (r : (YBs)) : List RV × List RV := ([rv (false, [.sl 5 [.int .u8]]) r], [])
def Kh : Fns := [(422, .plain, A3h)]
def Ape : As := Aq Aaw (fun d => (M7 d.1).val) Apd
def Agq : Sk := ⟨[(3, .v false [(.sl 5 [.int .u8], (.own 7000000))])], [], [7000000]⟩
def Agr : List (Ex × Sk) := [((.exit 0), ⟨[(3, .v false [(.sl 5 [.int .u8], (.own 7000000))])], [], [7000000]⟩)]
def Aax : Bl := fun i st => cond (Nat.beq i 6) (lam Agq 7000000 Agr J8 st) <| .fail
theorem Ay0 : ∀ d, bod ⟨Az tys, Ax Kh, Ap Kh, 3, 4⟩ 0 Tryz.f421.ntmps Aax (Ac Tryz.f421 0) Agq 7000000 Agr d = J8 d := fun d => by kernel_rfl
theorem Ay1 (cx : Cx) (hp : cx.pin.length ≤ 0) : Bf Tryz.prog cx Tryz.f421.ntmps Aax (Ac Tryz.f421 0) := Bc (Al A2 Au (show A0 Tryz.prog Kh from ⟨Aki, trivial⟩)) hp (Aw (by kernel_rfl : Am (Ac Tryz.f421 0) = []) trivial) (by kernel_rfl) Ay0
theorem A9h : ∀ d, Bn ⟨Az tys, Ax Kh, Ap Kh, 3, 4⟩ 0 Aax Tryz.f421 .plain (mkA Aaw d) = (M7 d.1).run fun r => some (Apd r) := fun d => by kernel_rfl
theorem Am4 : Fn Tryz.prog 421 .plain Ape := Br (Al A2 Au (show A0 Tryz.prog Kh from ⟨Aki, trivial⟩)) Tryz.func421 (by kernel_rfl) (by kernel_rfl) (fun cx b hp hb => Aw (by kernel_rfl : Am (Tryz.f421.body.getD .skip) = [Ac Tryz.f421 0]) ⟨Ay1 cx hp, trivial⟩ b hb) (R := (YBs)) (T := fun (d : Bw Aaw) => M7 d.1) A9h
def Awc : List (Bool × List Sh) := [(false, [.sl 5 [.int .u8]]), (false, [.sl 5 [.int .u8]])]
def A9i (r : (YBs)) : List RV × List RV := ([rv (false, [.sl 5 [.int .u8]]) r], [])
def Ui : Fns := [(421, .plain, Ape), (422, .plain, A3h)]
def Akj : As := Aq Awc (fun d => (Zy d.1 d.2.1).val) A9i
def Ay2 : Sk := ⟨[(1, .v false [(.sl 5 [.int .u8], .ro)]), (5, .v false [(.sl 5 [.int .u8], (.own 8000000))]), (6, .v false [(.sl 5 [.int .u8], (.own 8000001))]), (7, .v false [(.sl 5 [.int .u8], (.own 8000002))]), (8, .v false [(.int .i64, .nil)])], [], [8000000, 8000001, 8000002]⟩
def Ay3 : List (Ex × Sk) := [((.exit 0), ⟨[(1, .v false [(.sl 5 [.int .u8], .ro)]), (6, .v false [(.sl 5 [.int .u8], (.own 8000000))]), (7, .v false [(.sl 5 [.int .u8], (.own 8000001))])], [], [8000000, 8000001]⟩)]
def Awd : Bl := fun i st => cond (Nat.beq i 7) (lam Ay2 8000000 Ay3 Lg st) <| .fail
theorem Bde : ∀ d, bod ⟨Az tys, Ax Ui, Ap Ui, 3, 4⟩ 0 Tryz.f380.ntmps Awd (Ac Tryz.f380 0) Ay2 8000000 Ay3 d = Lg d := fun d => by kernel_rfl
theorem Bdf (cx : Cx) (hp : cx.pin.length ≤ 0) : Bf Tryz.prog cx Tryz.f380.ntmps Awd (Ac Tryz.f380 0) := Bc (Al A2 Au (show A0 Tryz.prog Ui from ⟨Am4, Aki, trivial⟩)) hp (Aw (by kernel_rfl : Am (Ac Tryz.f380 0) = []) trivial) (by kernel_rfl) Bde
theorem Bll : ∀ d, Bn ⟨Az tys, Ax Ui, Ap Ui, 3, 4⟩ 0 Awd Tryz.f380 .plain (mkA Awc d) = (Zy d.1 d.2.1).run fun r => some (A9i r) := fun d => by kernel_rfl
theorem Acj : Fn Tryz.prog 380 .plain Akj := Br (Al A2 Au (show A0 Tryz.prog Ui from ⟨Am4, Aki, trivial⟩)) Tryz.func380 (by kernel_rfl) (by kernel_rfl) (fun cx b hp hb => Aw (by kernel_rfl : Am (Tryz.f380.body.getD .skip) = [Ac Tryz.f380 0]) ⟨Bdf cx hp, trivial⟩ b hb) (R := (YBs)) (T := fun (d : Bw Awc) => Zy d.1 d.2.1) Bll
def A3j : As := Aq [(false, [.sl 5 [.int .u8]]), (false, [.sl 5 [.int .u8]])] (fun d => (A2q d.1 d.2.1).val) fun r => ([rv (false, [.sl 5 [.int .u8]]) r], [])
theorem Awe : Fn Tryz.prog 280 .plain A3j := mkF [(380, .plain, Akj)] ⟨Acj, trivial⟩ Tryz.func280 (by kernel_rfl) (by kernel_rfl) (by kernel_rfl) 0 fun d => by kernel_rfl
def Awf : List (Bool × List Sh) := [(false, [.sl 5 [.int .u8]]), (false, [.sl 5 [.int .u8]])]
def A9j (r : (YI)) : List RV × List RV := ([rv (false, [.int .i64]) r], [])
def Uj : Fns := []
def A9k : As := Aq Awf (fun d => (Z0 d.1 d.2.1).val) A9j
def Ay4 : Sk := ⟨[(0, .v false [(.sl 5 [.int .u8], .ro)]), (1, .v false [(.sl 5 [.int .u8], .ro)]), (5, .v false [(.int .i64, .nil)]), (6, .v false [(.int .i64, .nil)])], [], []⟩
def Ay5 : List (Ex × Sk) := [((.exit 0), ⟨[(5, .v false [(.int .i64, .nil)])], [], []⟩)]
def Awg : Bl := fun i st => cond (Nat.beq i 5) (lam Ay4 6000000 Ay5 Ot st) <| .fail
theorem Bdg : ∀ d, bod ⟨Az tys, Ax Uj, Ap Uj, 3, 4⟩ 0 Tryz.f381.ntmps Awg (Ac Tryz.f381 0) Ay4 6000000 Ay5 d = Ot d := fun d => by kernel_rfl
theorem Bdh (cx : Cx) (hp : cx.pin.length ≤ 0) : Bf Tryz.prog cx Tryz.f381.ntmps Awg (Ac Tryz.f381 0) := Bc (Al A2 Au (show A0 Tryz.prog Uj from trivial)) hp (Aw (by kernel_rfl : Am (Ac Tryz.f381 0) = []) trivial) (by kernel_rfl) Bdg
theorem Blm : ∀ d, Bn ⟨Az tys, Ax Uj, Ap Uj, 3, 4⟩ 0 Awg Tryz.f381 .plain (mkA Awf d) = (Z0 d.1 d.2.1).run fun r => some (A9j r) := fun d => by kernel_rfl
theorem Bi6 : Fn Tryz.prog 381 .plain A9k := Br (Al A2 Au (show A0 Tryz.prog Uj from trivial)) Tryz.func381 (by kernel_rfl) (by kernel_rfl) (fun cx b hp hb => Aw (by kernel_rfl : Am (Tryz.f381.body.getD .skip) = [Ac Tryz.f381 0]) ⟨Bdh cx hp, trivial⟩ b hb) (R := (YI)) (T := fun (d : Bw Awf) => Z0 d.1 d.2.1) Blm
def At8 : As := Aq [(false, [.sl 5 [.int .u8]]), (false, [.sl 5 [.int .u8]])] (fun d => (Ad9 d.1 d.2.1).val) fun r => ([rv (false, [.bool]) r], [])
theorem A9l : Fn Tryz.prog 284 .plain At8 := mkF [(381, .plain, A9k)] ⟨Bi6, trivial⟩ Tryz.func284 (by kernel_rfl) (by kernel_rfl) (by kernel_rfl) 0 fun d => by kernel_rfl
def At9 : As := Aq [(false, [.sl 5 [.int .u8]]), (false, [.sl 5 [.int .u8]]), (false, [.int .i64])] (fun d => (Aeb d.1 d.2.1 d.2.2.1).val) fun r => ([rv (false, [.sl 5 [.int .u8]]) r], [])
theorem Apf : Fn Tryz.prog 448 .plain At9 := mkF [(94, .plain, Cy), (282, .plain, Uf), (380, .plain, Akj)] ⟨B0, Ns, Acj, trivial⟩ Tryz.func448 (by kernel_rfl) (by kernel_rfl) (by kernel_rfl) 0 fun d => by kernel_rfl
def Akk : List (Bool × List Sh) := [(false, [.sl 5 [.int .u8]]), (false, [.sl 5 [.int .u8]]), (false, [.int .i64])]
def Ay6 (r : (YBs)) : List RV × List RV := ([rv (false, [.sl 5 [.int .u8]]) r], [])
def Pa : Fns := [(94, .plain, Cy), (448, .plain, At9)]
def Ay7 : As := Aq Akk (fun d => (R4 d.1 d.2.1 d.2.2.1).val) Ay6
def Apg : Sk := ⟨[(0, .v false [(.sl 5 [.int .u8], .ro)]), (1, .v false [(.sl 5 [.int .u8], .ro)]), (2, .v false [(.int .i64, .nil)]), (7, .v false [(.sl 5 [.int .u8], (.own 6000000))]), (8, .v false [(.int .i64, .nil)])], [], [6000000]⟩
def Aph : List (Ex × Sk) := [((.exit 0), ⟨[(2, .v false [(.int .i64, .nil)]), (7, .v false [(.sl 5 [.int .u8], (.own 6000000))])], [], [6000000]⟩)]
def Akl : Bl := fun i st => cond (Nat.beq i 5) (lam Apg 6000000 Aph Hu st) <| .fail
theorem A65 : ∀ d, bod ⟨Az tys, Ax Pa, Ap Pa, 3, 4⟩ 0 Tryz.f431.ntmps Akl (Ac Tryz.f431 0) Apg 6000000 Aph d = Hu d := fun d => by kernel_rfl
theorem A66 (cx : Cx) (hp : cx.pin.length ≤ 0) : Bf Tryz.prog cx Tryz.f431.ntmps Akl (Ac Tryz.f431 0) := Bc (Al A2 Au (show A0 Tryz.prog Pa from ⟨B0, Apf, trivial⟩)) hp (Aw (by kernel_rfl : Am (Ac Tryz.f431 0) = []) trivial) (by kernel_rfl) A65
theorem Bgw : ∀ d, Bn ⟨Az tys, Ax Pa, Ap Pa, 3, 4⟩ 0 Akl Tryz.f431 .plain (mkA Akk d) = (R4 d.1 d.2.1 d.2.2.1).run fun r => some (Ay6 r) := fun d => by kernel_rfl
theorem Aua : Fn Tryz.prog 431 .plain Ay7 := Br (Al A2 Au (show A0 Tryz.prog Pa from ⟨B0, Apf, trivial⟩)) Tryz.func431 (by kernel_rfl) (by kernel_rfl) (fun cx b hp hb => Aw (by kernel_rfl : Am (Tryz.f431.body.getD .skip) = [Ac Tryz.f431 0]) ⟨A66 cx hp, trivial⟩ b hb) (R := (YBs)) (T := fun (d : Bw Akk) => R4 d.1 d.2.1 d.2.2.1) Bgw
def A3k : List (Bool × List Sh) := [(false, [.sl 5 [.int .u8]]), (false, [.sl 5 [.int .u8]]), (false, [.sl 5 [.int .u8]])]
def Bff (r : (YBs)) : List RV × List RV := ([rv (false, [.sl 5 [.int .u8]]) r], [])
def Zh : Fns := [(431, .plain, Ay7)]
def A3l : As := Aq A3k (fun d => (Af9 d.1 d.2.1 d.2.2.1).val) Bff
def A5q : Sk := ⟨[(2, .v false [(.sl 5 [.int .u8], .ro)]), (7, .v false [(.sl 5 [.int .u8], (.own 7000000))]), (8, .v false [(.sl 5 [.int .u8], (.own 7000001))]), (9, .v false [(.int .i64, .nil)])], [], [7000000, 7000001]⟩
def A5r : List (Ex × Sk) := [((.exit 0), ⟨[(7, .v false [(.sl 5 [.int .u8], (.own 7000000))])], [], [7000000]⟩)]
def A3m : Bl := fun i st => cond (Nat.beq i 6) (lam A5q 7000000 A5r M8 st) <| .fail
theorem Bgx : ∀ d, bod ⟨Az tys, Ax Zh, Ap Zh, 3, 4⟩ 0 Tryz.f396.ntmps A3m (Ac Tryz.f396 0) A5q 7000000 A5r d = M8 d := fun d => by kernel_rfl
theorem Bgy (cx : Cx) (hp : cx.pin.length ≤ 0) : Bf Tryz.prog cx Tryz.f396.ntmps A3m (Ac Tryz.f396 0) := Bc (Al A2 Au (show A0 Tryz.prog Zh from ⟨Aua, trivial⟩)) hp (Aw (by kernel_rfl : Am (Ac Tryz.f396 0) = []) trivial) (by kernel_rfl) Bgx
theorem Bnp : ∀ d, Bn ⟨Az tys, Ax Zh, Ap Zh, 3, 4⟩ 0 A3m Tryz.f396 .plain (mkA A3k d) = (Af9 d.1 d.2.1 d.2.2.1).run fun r => some (Bff r) := fun d => by kernel_rfl
theorem Awh : Fn Tryz.prog 396 .plain A3l := Br (Al A2 Au (show A0 Tryz.prog Zh from ⟨Aua, trivial⟩)) Tryz.func396 (by kernel_rfl) (by kernel_rfl) (fun cx b hp hb => Aw (by kernel_rfl : Am (Tryz.f396.body.getD .skip) = [Ac Tryz.f396 0]) ⟨Bgy cx hp, trivial⟩ b hb) (R := (YBs)) (T := fun (d : Bw A3k) => Af9 d.1 d.2.1 d.2.2.1) Bnp
def Ay8 : As := Aq [(false, [.sl 5 [.int .u8]]), (false, [.int .i64]), (true, D5)] (fun d => (Aiv d.1 d.2.1 d.2.2.1).val) fun r => ([rv (false, [.sl 5 [.int .u8]]) r.1, rv (false, [.bool]) r.2], [])
theorem Bdi : Fn Tryz.prog 407 .plain Ay8 := mkF [(213, .plain, Kg), (280, .plain, A3j), (284, .plain, At8), (344, .plain, S3), (396, .plain, A3l)] ⟨Iw, Awe, A9l, Qj, Awh, trivial⟩ Tryz.func407 (by kernel_rfl) (by kernel_rfl) (by kernel_rfl) 0 fun d => by kernel_rfl
def Akm : List (Bool × List Sh) := [(true, [.int .i64, .sl 3 [.int .i64]]), (false, [.int .i64])]
def Ay9 (r : (Bo) × (Bool × Unit)) : List RV × List RV := ([rv (true, [.int .i64, .sl 3 [.int .i64]]) r.1, rv (false, [.bool]) r.2], [])
def Pb : Fns := [(427, .plain, Akf), (406, .plain, Akh)]
def Aza : As := Aq Akm (fun d => (R5 d.1 d.2.1).val) Ay9
def Api : Sk := ⟨[(1, .v false [(.int .i64, .nil)]), (2, .box 2 0), (4, .box 4 0), (6, .box 6 0), (7, .v false [(.int .i64, .nil)]), (8, .v false [(.int .i64, .nil)])], [(2, [(.int .i64, .nil), (.sl 3 [.int .i64], .ro)]), (4, [(.int .i64, .nil), (.sl 3 [.int .i64], (.own 7000000))]), (6, [(.int .i64, .nil), (.sl 3 [.int .i64], (.own 7000001))])], [7000000, 7000001]⟩
def Apj : List (Ex × Sk) := [((.exit 0), ⟨[(1, .v false [(.int .i64, .nil)]), (2, .box 2 0), (4, .box 4 0), (6, .box 6 0)], [(2, [(.int .i64, .nil), (.sl 3 [.int .i64], .ro)]), (4, [(.int .i64, .nil), (.sl 3 [.int .i64], (.own 7000000))]), (6, [(.int .i64, .nil), (.sl 3 [.int .i64], (.own 7000001))])], [7000000, 7000001]⟩)]
def Akn : Bl := fun i st => cond (Nat.beq i 6) (lam Api 7000000 Apj Hv st) <| .fail
theorem A67 : ∀ d, bod ⟨Az tys, Ax Pb, Ap Pb, 3, 4⟩ 0 Tryz.f408.ntmps Akn (Ac Tryz.f408 0) Api 7000000 Apj d = Hv d := fun d => by kernel_rfl
theorem A68 (cx : Cx) (hp : cx.pin.length ≤ 0) : Bf Tryz.prog cx Tryz.f408.ntmps Akn (Ac Tryz.f408 0) := Bc (Al A2 Au (show A0 Tryz.prog Pb from ⟨Ae2, Ae8, trivial⟩)) hp (Aw (by kernel_rfl : Am (Ac Tryz.f408 0) = []) trivial) (by kernel_rfl) A67
theorem Bgz : ∀ d, Bn ⟨Az tys, Ax Pb, Ap Pb, 3, 4⟩ 0 Akn Tryz.f408 .plain (mkA Akm d) = (R5 d.1 d.2.1).run fun r => some (Ay9 r) := fun d => by kernel_rfl
theorem Bdj : Fn Tryz.prog 408 .plain Aza := Br (Al A2 Au (show A0 Tryz.prog Pb from ⟨Ae2, Ae8, trivial⟩)) Tryz.func408 (by kernel_rfl) (by kernel_rfl) (fun cx b hp hb => Aw (by kernel_rfl : Am (Tryz.f408.body.getD .skip) = [Ac Tryz.f408 0]) ⟨A68 cx hp, trivial⟩ b hb) (R := (Bo) × (Bool × Unit)) (T := fun (d : Bw Akm) => R5 d.1 d.2.1) Bgz
def Azb : As := Aq [(true, h_6), (false, [.int .i64]), (true, D5)] (fun d => (Aiy d.1 d.2.1 d.2.2.1).val) fun r => ([rv (true, h_6) r.1, rv (false, [.sl 5 [.int .u8]]) r.2.1, rv (false, [.int .i64]) r.2.2], [])
theorem Bdk : Fn Tryz.prog 343 .plain Azb := mkF [(390, .plain, S1), (328, .plain, Akg), (213, .plain, Kg), (406, .plain, Akh), (407, .plain, Ay8), (408, .plain, Aza)] ⟨Vi, Ao4, Iw, Ae8, Bdi, Bdj, trivial⟩ Tryz.func343 (by kernel_rfl) (by kernel_rfl) (by kernel_rfl) 0 fun d => by kernel_rfl
def Ako : List (Bool × List Sh) := []
def Azc (r : (Bo)) : List RV × List RV := ([rv (true, [.int .i64, .sl 3 [.int .i64]]) r], [])
def Pc : Fns := []
def Azd : As := Aq Ako (fun d => (R6 ).val) Azc
def Apk : Sk := ⟨[(0, .box 0 0), (1, .box 1 0), (2, .v false [(.int .i64, .nil)])], [(0, [(.int .i64, .nil), (.sl 3 [.int .i64], (.own 4000000))]), (1, [(.int .i64, .nil), (.sl 3 [.int .i64], (.own 4000001))])], [4000000, 4000001]⟩
def Apl : List (Ex × Sk) := [((.exit 0), ⟨[(0, .box 0 0), (1, .box 1 0)], [(0, [(.int .i64, .nil), (.sl 3 [.int .i64], (.own 4000000))]), (1, [(.int .i64, .nil), (.sl 3 [.int .i64], (.own 4000001))])], [4000000, 4000001]⟩)]
def Akp : Bl := fun i st => cond (Nat.beq i 3) (lam Apk 4000000 Apl Hw st) <| .fail
theorem A69 : ∀ d, bod ⟨Az tys, Ax Pc, Ap Pc, 3, 4⟩ 0 Tryz.f395.ntmps Akp (Ac Tryz.f395 0) Apk 4000000 Apl d = Hw d := fun d => by kernel_rfl
theorem A7a (cx : Cx) (hp : cx.pin.length ≤ 0) : Bf Tryz.prog cx Tryz.f395.ntmps Akp (Ac Tryz.f395 0) := Bc (Al A2 Au (show A0 Tryz.prog Pc from trivial)) hp (Aw (by kernel_rfl : Am (Ac Tryz.f395 0) = []) trivial) (by kernel_rfl) A69
theorem Bg0 : ∀ d, Bn ⟨Az tys, Ax Pc, Ap Pc, 3, 4⟩ 0 Akp Tryz.f395 .plain (mkA Ako d) = (R6 ).run fun r => some (Azc r) := fun d => by kernel_rfl
theorem Bdl : Fn Tryz.prog 395 .plain Azd := Br (Al A2 Au (show A0 Tryz.prog Pc from trivial)) Tryz.func395 (by kernel_rfl) (by kernel_rfl) (fun cx b hp hb => Aw (by kernel_rfl : Am (Tryz.f395.body.getD .skip) = [Ac Tryz.f395 0]) ⟨A7a cx hp, trivial⟩ b hb) (R := (Bo)) (T := fun (d : Bw Ako) => R6 ) Bg0
def Apm : As := Aq [(false, [.int .i64]), (false, [.sl 5 [.int .u8]])] (fun d => (Vw d.1 d.2.1).val) fun r => ([rv (true, h_6) r], [])
theorem Aze : Fn Tryz.prog 321 .plain Apm := mkF [(94, .plain, Cy), (395, .plain, Azd)] ⟨B0, Bdl, trivial⟩ Tryz.func321 (by kernel_rfl) (by kernel_rfl) (by kernel_rfl) 0 fun d => by kernel_rfl
def Apn : As := Aq [(true, Dd), (false, [.int .i64]), (true, D5)] (fun d => (R7 d.1 d.2.1 d.2.2.1).val) fun r => ([rv (true, Dd) r.1, rv (false, [.sl 5 [.int .u8]]) r.2.1, rv (false, [.int .i64]) r.2.2], [])
theorem A7b : Fn Tryz.prog 211 .plain Apn := mkF [(310, .plain, Jx), (195, .plain, Jd), (94, .plain, Cy), (196, .plain, Ae7), (114, .plain, O9), (112, .plain, S2), (343, .plain, Azb), (321, .plain, Apm)] ⟨Kf, Jy, B0, Ao5, Mh, Qg, Bdk, Aze, trivial⟩ Tryz.func211 (by kernel_rfl) (by kernel_rfl) (by kernel_rfl) 0 fun d => by kernel_rfl
def Azf : As := Aq [(true, Dd), (false, [.int .i64])] (fun d => (Ai0 d.1 d.2.1).val) fun r => ([rv (false, [.sl 5 [.int .u8]]) r.1, rv (false, [.bool]) r.2], [])
theorem Bdm : Fn Tryz.prog 212 .plain Azf := mkF [(195, .plain, Jd)] ⟨Jy, trivial⟩ Tryz.func212 (by kernel_rfl) (by kernel_rfl) (by kernel_rfl) 0 fun d => by kernel_rfl
def A9m : As := Aq [(false, [.sl 5 [.int .u8]]), (false, [.sl 5 [.int .u8]]), (false, [.sl 5 [.int .u8]])] (fun d => (Avm d.1 d.2.1 d.2.2.1).val) fun r => ([rv (true, h_9) r], [])
theorem Bi7 : Fn Tryz.prog 109 .plain A9m := mkF [] trivial Tryz.func109 (by kernel_rfl) (by kernel_rfl) (by kernel_rfl) 0 fun d => by kernel_rfl
def Akq : List (Bool × List Sh) := [(true, h_7), (true, [.int .i64, .int .i64])]
def Azg (r : (Aj) × (Bool × Unit)) : List RV × List RV := ([rv (true, h_5) r.1, rv (false, [.bool]) r.2], [])
def Pd : Fns := [(222, .plain, Qh), (346, .plain, Qe)]
def Azh : As := Aq Akq (fun d => (R8 d.1 d.2.1).val) Azg
def Apo : Sk := ⟨[(2, .box 2 0), (3, .box 3 0), (4, .box 4 0), (6, .v false [(.int .i64, .nil)])], [(2, [(.int .i64, .nil), (.int .i64, .nil), (.sl 311 h_5, .ro)]), (3, [(.int .i64, .nil), (.int .i64, .nil)]), (4, [(.int .i64, .nil), (.int .i64, .nil), (.sl 5 [.int .u8], (.own 5000000)), (.int .i64, .nil)])], [5000000]⟩
def App : List (Ex × Sk) := [(.ret, ⟨[(4, .box 4 0), (5, .v false [(.bool, .nil)])], [(4, [(.int .i64, .nil), (.int .i64, .nil), (.sl 5 [.int .u8], (.own 5000000)), (.int .i64, .nil)])], [5000000]⟩), ((.exit 0), ⟨[(4, .box 4 0)], [(4, [(.int .i64, .nil), (.int .i64, .nil), (.sl 5 [.int .u8], (.own 5000000)), (.int .i64, .nil)])], [5000000]⟩)]
def Akr : Bl := fun i st => cond (Nat.beq i 4) (lam Apo 5000000 App Hy st) <| .fail
theorem A7c : ∀ d, bod ⟨Az tys, Ax Pd, Ap Pd, 3, 4⟩ 0 Tryz.f345.ntmps Akr (Ac Tryz.f345 0) Apo 5000000 App d = Hy d := fun d => by kernel_rfl
theorem A7d (cx : Cx) (hp : cx.pin.length ≤ 0) : Bf Tryz.prog cx Tryz.f345.ntmps Akr (Ac Tryz.f345 0) := Bc (Al A2 Au (show A0 Tryz.prog Pd from ⟨H8, F7, trivial⟩)) hp (Aw (by kernel_rfl : Am (Ac Tryz.f345 0) = []) trivial) (by kernel_rfl) A7c
theorem Bg1 : ∀ d, Bn ⟨Az tys, Ax Pd, Ap Pd, 3, 4⟩ 0 Akr Tryz.f345 .plain (mkA Akq d) = (R8 d.1 d.2.1).run fun r => some (Azg r) := fun d => by kernel_rfl
theorem Aub : Fn Tryz.prog 345 .plain Azh := Br (Al A2 Au (show A0 Tryz.prog Pd from ⟨H8, F7, trivial⟩)) Tryz.func345 (by kernel_rfl) (by kernel_rfl) (fun cx b hp hb => Aw (by kernel_rfl : Am (Tryz.f345.body.getD .skip) = [Ac Tryz.f345 0]) ⟨A7d cx hp, trivial⟩ b hb) (R := (Aj) × (Bool × Unit)) (T := fun (d : Bw Akq) => R8 d.1 d.2.1) Bg1
def Aks : List (Bool × List Sh) := [(true, h_7), (false, [.int .i64]), (true, [.int .i64, .int .i64]), (false, [.sl 5 [.int .u8]])]
def Azi (r : (A6) × (Bool × Unit)) : List RV × List RV := ([rv (true, h_7) r.1, rv (false, [.bool]) r.2], [])
def Pe : Fns := [(345, .plain, Azh), (94, .plain, Cy), (112, .plain, S2), (342, .plain, Qf), (346, .plain, Qe)]
def Azj : As := Aq Aks (fun d => (R9 d.1 d.2.1 d.2.2.1 d.2.2.2.1).val) Azi
def Apq : Sk := ⟨[(4, .box 4 0), (6, .box 6 0), (8, .box 8 0), (12, .box 12 0), (13, .v false [(.int .i64, .nil)])], [(4, [(.int .i64, .nil), (.int .i64, .nil), (.sl 311 h_5, .ro)]), (6, [(.int .i64, .nil), (.int .i64, .nil)]), (8, [(.int .i64, .nil), (.int .i64, .nil), (.sl 311 h_5, (.own 7000000))]), (12, [(.int .i64, .nil), (.int .i64, .nil), (.sl 311 h_5, (.own 7000001))])], [7000000, 7000001]⟩
def Apr : List (Ex × Sk) := [((.exit 0), ⟨[(8, .box 8 0), (12, .box 12 0)], [(8, [(.int .i64, .nil), (.int .i64, .nil), (.sl 311 h_5, (.own 7000000))]), (12, [(.int .i64, .nil), (.int .i64, .nil), (.sl 311 h_5, (.own 7000001))])], [7000000, 7000001]⟩)]
def Akt : Bl := fun i st => cond (Nat.beq i 6) (lam Apq 7000000 Apr Hz st) <| .fail
theorem A7e : ∀ d, bod ⟨Az tys, Ax Pe, Ap Pe, 3, 4⟩ 0 Tryz.f214.ntmps Akt (Ac Tryz.f214 0) Apq 7000000 Apr d = Hz d := fun d => by kernel_rfl
theorem A7f (cx : Cx) (hp : cx.pin.length ≤ 0) : Bf Tryz.prog cx Tryz.f214.ntmps Akt (Ac Tryz.f214 0) := Bc (Al A2 Au (show A0 Tryz.prog Pe from ⟨Aub, B0, Qg, H7, F7, trivial⟩)) hp (Aw (by kernel_rfl : Am (Ac Tryz.f214 0) = []) trivial) (by kernel_rfl) A7e
theorem Bg2 : ∀ d, Bn ⟨Az tys, Ax Pe, Ap Pe, 3, 4⟩ 0 Akt Tryz.f214 .plain (mkA Aks d) = (R9 d.1 d.2.1 d.2.2.1 d.2.2.2.1).run fun r => some (Azi r) := fun d => by kernel_rfl
theorem Bdn : Fn Tryz.prog 214 .plain Azj := Br (Al A2 Au (show A0 Tryz.prog Pe from ⟨Aub, B0, Qg, H7, F7, trivial⟩)) Tryz.func214 (by kernel_rfl) (by kernel_rfl) (fun cx b hp hb => Aw (by kernel_rfl : Am (Tryz.f214.body.getD .skip) = [Ac Tryz.f214 0]) ⟨A7f cx hp, trivial⟩ b hb) (R := (A6) × (Bool × Unit)) (T := fun (d : Bw Aks) => R9 d.1 d.2.1 d.2.2.1 d.2.2.2.1) Bg2
def Wz : As := Aq [(false, [.int .i64])] (fun d => (Wi d.1).val) fun r => ([rv (false, [.sl 5 [.int .u8]]) r], [])
theorem Ags : Fn Tryz.prog 332 .plain Wz := mkF [(94, .plain, Cy), (282, .plain, Uf)] ⟨B0, Ns, trivial⟩ Tryz.func332 (by kernel_rfl) (by kernel_rfl) (by kernel_rfl) 0 fun d => by kernel_rfl
def Aku : List (Bool × List Sh) := [(false, [.sl 5 [.int .u8]]), (false, [.sl 5 [.int .u8]]), (false, [.int .i64])]
def Azk (r : (YBs) × (Bool × Unit)) : List RV × List RV := ([rv (false, [.sl 5 [.int .u8]]) r.1, rv (false, [.bool]) r.2], [])
def Pf : Fns := [(94, .plain, Cy), (380, .plain, Akj)]
def Azl : As := Aq Aku (fun d => (Sa d.1 d.2.1 d.2.2.1).val) Azk
def Aps : Sk := ⟨[(0, .v false [(.sl 5 [.int .u8], .ro)]), (1, .v false [(.sl 5 [.int .u8], .ro)]), (2, .v false [(.int .i64, .nil)]), (8, .v false [(.sl 5 [.int .u8], (.own 7000000))]), (9, .v false [(.sl 5 [.int .u8], (.own 7000001))]), (10, .v false [(.int .i64, .nil)])], [], [7000000, 7000001]⟩
def Apt : List (Ex × Sk) := [((.exit 0), ⟨[(2, .v false [(.int .i64, .nil)]), (8, .v false [(.sl 5 [.int .u8], (.own 7000000))])], [], [7000000]⟩)]
def Akv : Bl := fun i st => cond (Nat.beq i 6) (lam Aps 7000000 Apt H0 st) <| .fail
theorem A7g : ∀ d, bod ⟨Az tys, Ax Pf, Ap Pf, 3, 4⟩ 0 Tryz.f382.ntmps Akv (Ac Tryz.f382 0) Aps 7000000 Apt d = H0 d := fun d => by kernel_rfl
theorem A7h (cx : Cx) (hp : cx.pin.length ≤ 0) : Bf Tryz.prog cx Tryz.f382.ntmps Akv (Ac Tryz.f382 0) := Bc (Al A2 Au (show A0 Tryz.prog Pf from ⟨B0, Acj, trivial⟩)) hp (Aw (by kernel_rfl : Am (Ac Tryz.f382 0) = []) trivial) (by kernel_rfl) A7g
theorem Bg3 : ∀ d, Bn ⟨Az tys, Ax Pf, Ap Pf, 3, 4⟩ 0 Akv Tryz.f382 .plain (mkA Aku d) = (Sa d.1 d.2.1 d.2.2.1).run fun r => some (Azk r) := fun d => by kernel_rfl
theorem Bdo : Fn Tryz.prog 382 .plain Azl := Br (Al A2 Au (show A0 Tryz.prog Pf from ⟨B0, Acj, trivial⟩)) Tryz.func382 (by kernel_rfl) (by kernel_rfl) (fun cx b hp hb => Aw (by kernel_rfl : Am (Tryz.f382.body.getD .skip) = [Ac Tryz.f382 0]) ⟨A7h cx hp, trivial⟩ b hb) (R := (YBs) × (Bool × Unit)) (T := fun (d : Bw Aku) => Sa d.1 d.2.1 d.2.2.1) Bg3
def Azm : As := Aq [(false, [.sl 5 [.int .u8]]), (false, [.str])] (fun d => (Ai2 d.1 d.2.1).val) fun r => ([rv (false, [.sl 5 [.int .u8]]) r], [])
theorem Bdp : Fn Tryz.prog 288 .plain Azm := mkF [(382, .plain, Azl)] ⟨Bdo, trivial⟩ Tryz.func288 (by kernel_rfl) (by kernel_rfl) (by kernel_rfl) 0 fun d => by kernel_rfl
def A9n : As := Aq [(true, Dd)] (fun d => (Avo d.1).val) fun r => ([rv (true, Dd) r.1, rv (false, [.bool]) r.2], [])
theorem Bi8 : Fn Tryz.prog 347 .plain A9n := mkF [(310, .plain, Jx), (195, .plain, Jd), (288, .plain, Azm), (321, .plain, Apm)] ⟨Kf, Jy, Bdp, Aze, trivial⟩ Tryz.func347 (by kernel_rfl) (by kernel_rfl) (by kernel_rfl) 0 fun d => by kernel_rfl
def Am5 : As := Aq [(true, Dd), (false, [.int .i64]), (false, [.sl 5 [.int .u8]])] (fun d => (Wk d.1 d.2.1 d.2.2.1).val) fun r => ([rv (true, Dd) r.1, rv (false, [.int .i64]) r.2], [])
theorem A3n : Fn Tryz.prog 215 .plain Am5 := mkF [(310, .plain, Jx), (195, .plain, Jd), (94, .plain, Cy), (332, .plain, Wz), (112, .plain, S2), (347, .plain, A9n)] ⟨Kf, Jy, B0, Ags, Qg, Bi8, trivial⟩ Tryz.func215 (by kernel_rfl) (by kernel_rfl) (by kernel_rfl) 0 fun d => by kernel_rfl
def Awi : List (Bool × List Sh) := [(false, [.sl 5 [.int .u8]]), (false, [.int .i64]), (false, [.sl 5 [.int .u8]]), (false, [.int .i64]), (false, [.int .i64]), (false, [.int .i64]), (false, [.sl 5 [.int .u8]])]
def A9o (r : (Av) × (Bool × Unit)) : List RV × List RV := ([rv (true, D5) r.1, rv (false, [.bool]) r.2], [])
def Uk : Fns := [(344, .plain, S3), (114, .plain, O9), (329, .plain, X4), (396, .plain, A3l), (213, .plain, Kg), (280, .plain, A3j)]
def A9p : As := Aq Awi (fun d => (Z2 d.1 d.2.1 d.2.2.1 d.2.2.2.1 d.2.2.2.2.1 d.2.2.2.2.2.1 d.2.2.2.2.2.2.1).val) A9o
def Azn : Sk := ⟨[(0, .v false [(.sl 5 [.int .u8], .ro)]), (1, .v false [(.int .i64, .nil)]), (14, .box 14 0), (17, .box 17 0), (18, .v false [(.int .i64, .nil)])], [(14, [(.int .i64, .nil), (.int .i64, .nil), (.sl 5 [.int .u8], (.own 7000000)), (.sl 5 [.int .u8], (.own 7000001)), (.int .i64, .nil), (.sl 5 [.int .u8], (.own 7000002)), (.sl 5 [.int .u8], (.own 7000003)), (.int .i64, .nil), (.int .i64, .nil), (.sl 5 [.int .u8], (.own 7000004)), (.sl 5 [.int .u8], (.own 7000005))]), (17, [(.int .i64, .nil), (.int .i64, .nil), (.sl 5 [.int .u8], (.own 7000006)), (.sl 5 [.int .u8], (.own 7000007)), (.int .i64, .nil), (.sl 5 [.int .u8], (.own 7000008)), (.sl 5 [.int .u8], (.own 7000009)), (.int .i64, .nil), (.int .i64, .nil), (.sl 5 [.int .u8], (.own 7000010)), (.sl 5 [.int .u8], (.own 7000011))])], [7000000, 7000001, 7000002, 7000003, 7000004, 7000005, 7000006, 7000007, 7000008, 7000009, 7000010, 7000011]⟩
def Azo : List (Ex × Sk) := [((.exit 0), ⟨[(0, .v false [(.sl 5 [.int .u8], .ro)]), (1, .v false [(.int .i64, .nil)]), (14, .box 14 0), (17, .box 17 0)], [(14, [(.int .i64, .nil), (.int .i64, .nil), (.sl 5 [.int .u8], (.own 7000000)), (.sl 5 [.int .u8], (.own 7000001)), (.int .i64, .nil), (.sl 5 [.int .u8], (.own 7000002)), (.sl 5 [.int .u8], (.own 7000003)), (.int .i64, .nil), (.int .i64, .nil), (.sl 5 [.int .u8], (.own 7000004)), (.sl 5 [.int .u8], (.own 7000005))]), (17, [(.int .i64, .nil), (.int .i64, .nil), (.sl 5 [.int .u8], (.own 7000006)), (.sl 5 [.int .u8], (.own 7000007)), (.int .i64, .nil), (.sl 5 [.int .u8], (.own 7000008)), (.sl 5 [.int .u8], (.own 7000009)), (.int .i64, .nil), (.int .i64, .nil), (.sl 5 [.int .u8], (.own 7000010)), (.sl 5 [.int .u8], (.own 7000011))])], [7000000, 7000001, 7000002, 7000003, 7000004, 7000005, 7000006, 7000007, 7000008, 7000009, 7000010, 7000011]⟩)]
def Awj : Bl := fun i st => cond (Nat.beq i 6) (lam Azn 7000000 Azo Lh st) <| .fail
theorem Bdq : ∀ d, bod ⟨Az tys, Ax Uk, Ap Uk, 3, 4⟩ 0 Tryz.f322.ntmps Awj (Ac Tryz.f322 0) Azn 7000000 Azo d = Lh d := fun d => by kernel_rfl
theorem Bdr (cx : Cx) (hp : cx.pin.length ≤ 0) : Bf Tryz.prog cx Tryz.f322.ntmps Awj (Ac Tryz.f322 0) := Bc (Al A2 Au (show A0 Tryz.prog Uk from ⟨Qj, Mh, Vj, Awh, Iw, Awe, trivial⟩)) hp (Aw (by kernel_rfl : Am (Ac Tryz.f322 0) = []) trivial) (by kernel_rfl) Bdq
theorem Bln : ∀ d, Bn ⟨Az tys, Ax Uk, Ap Uk, 3, 4⟩ 0 Awj Tryz.f322 .plain (mkA Awi d) = (Z2 d.1 d.2.1 d.2.2.1 d.2.2.2.1 d.2.2.2.2.1 d.2.2.2.2.2.1 d.2.2.2.2.2.2.1).run fun r => some (A9o r) := fun d => by kernel_rfl
theorem Bi9 : Fn Tryz.prog 322 .plain A9p := Br (Al A2 Au (show A0 Tryz.prog Uk from ⟨Qj, Mh, Vj, Awh, Iw, Awe, trivial⟩)) Tryz.func322 (by kernel_rfl) (by kernel_rfl) (fun cx b hp hb => Aw (by kernel_rfl : Am (Tryz.f322.body.getD .skip) = [Ac Tryz.f322 0]) ⟨Bdr cx hp, trivial⟩ b hb) (R := (Av) × (Bool × Unit)) (T := fun (d : Bw Awi) => Z2 d.1 d.2.1 d.2.2.1 d.2.2.2.1 d.2.2.2.2.1 d.2.2.2.2.2.1 d.2.2.2.2.2.2.1) Bln
def Azp : As := Aq [(true, h_6), (false, [.int .i64]), (false, [.sl 5 [.int .u8]]), (false, [.int .i64]), (false, [.sl 5 [.int .u8]])] (fun d => (Ai4 d.1 d.2.1 d.2.2.1 d.2.2.2.1 d.2.2.2.2.1).val) fun r => ([rv (true, h_6) r.1, rv (true, D5) r.2.1, rv (false, [.int .i64]) r.2.2], [])
theorem Bds : Fn Tryz.prog 349 .plain Azp := mkF [(390, .plain, S1), (328, .plain, Akg), (344, .plain, S3), (114, .plain, O9), (329, .plain, X4), (322, .plain, A9p)] ⟨Vi, Ao4, Qj, Mh, Vj, Bi9, trivial⟩ Tryz.func349 (by kernel_rfl) (by kernel_rfl) (by kernel_rfl) 0 fun d => by kernel_rfl
def Aay : As := Aq [(true, Dd), (false, [.int .i64]), (false, [.sl 5 [.int .u8]])] (fun d => (Z3 d.1 d.2.1 d.2.2.1).val) fun r => ([rv (true, Dd) r.1, rv (true, D5) r.2.1, rv (false, [.int .i64]) r.2.2], [])
theorem Am6 : Fn Tryz.prog 219 .plain Aay := mkF [(310, .plain, Jx), (195, .plain, Jd), (349, .plain, Azp)] ⟨Kf, Jy, Bds, trivial⟩ Tryz.func219 (by kernel_rfl) (by kernel_rfl) (by kernel_rfl) 0 fun d => by kernel_rfl
def Bfg : As := Aq [(true, Dd)] (fun d => (A2r d.1).val) fun r => ([rv (true, Dd) r.1, rv (true, D5) r.2.1, rv (false, [.int .i64]) r.2.2], [])
theorem Blo : Fn Tryz.prog 216 .plain Bfg := mkF [(195, .plain, Jd), (310, .plain, Jx), (332, .plain, Wz), (219, .plain, Aay)] ⟨Jy, Kf, Ags, Am6, trivial⟩ Tryz.func216 (by kernel_rfl) (by kernel_rfl) (by kernel_rfl) 0 fun d => by kernel_rfl
def A9q : As := Aq [(false, [.sl 5 [.int .u8]]), (false, [.sl 5 [.int .u8]])] (fun d => (Avq d.1 d.2.1).val) fun r => ([rv (true, h_9) r], [])
theorem Bja : Fn Tryz.prog 102 .plain A9q := mkF [] trivial Tryz.func102 (by kernel_rfl) (by kernel_rfl) (by kernel_rfl) 0 fun d => by kernel_rfl
def Auc : As := Aq [(true, Dd), (true, D5)] (fun d => (Aed d.1 d.2.1).val) fun r => ([rv (true, h_9) r], [])
theorem A9r : Fn Tryz.prog 217 .plain Auc := mkF [(213, .plain, Kg), (102, .plain, A9q)] ⟨Iw, Bja, trivial⟩ Tryz.func217 (by kernel_rfl) (by kernel_rfl) (by kernel_rfl) 0 fun d => by kernel_rfl
def Aaz : List (Bool × List Sh) := [(true, h_7), (false, [.int .i64])]
def Apu (r : (A6)) : List RV × List RV := ([rv (true, h_7) r], [])
def Ki : Fns := [(222, .plain, Qh), (94, .plain, Cy), (342, .plain, Qf), (346, .plain, Qe)]
def Apv : As := Aq Aaz (fun d => (M9 d.1 d.2.1).val) Apu
def Agt : Sk := ⟨[(1, .v false [(.int .i64, .nil)]), (2, .box 2 0), (4, .box 4 0), (5, .box 5 0), (6, .v false [(.int .i64, .nil)])], [(2, [(.int .i64, .nil), (.int .i64, .nil), (.sl 311 h_5, .ro)]), (4, [(.int .i64, .nil), (.int .i64, .nil), (.sl 311 h_5, (.own 6000000))]), (5, [(.int .i64, .nil), (.int .i64, .nil), (.sl 311 h_5, (.own 6000001))])], [6000000, 6000001]⟩
def Agu : List (Ex × Sk) := [((.exit 0), ⟨[(4, .box 4 0), (5, .box 5 0)], [(4, [(.int .i64, .nil), (.int .i64, .nil), (.sl 311 h_5, (.own 6000000))]), (5, [(.int .i64, .nil), (.int .i64, .nil), (.sl 311 h_5, (.own 6000001))])], [6000000, 6000001]⟩)]
def Aa0 : Bl := fun i st => cond (Nat.beq i 5) (lam Agt 6000000 Agu Fp st) <| .fail
theorem Azq : ∀ d, bod ⟨Az tys, Ax Ki, Ap Ki, 3, 4⟩ 0 Tryz.f348.ntmps Aa0 (Ac Tryz.f348 0) Agt 6000000 Agu d = Fp d := fun d => by kernel_rfl
theorem Azr (cx : Cx) (hp : cx.pin.length ≤ 0) : Bf Tryz.prog cx Tryz.f348.ntmps Aa0 (Ac Tryz.f348 0) := Bc (Al A2 Au (show A0 Tryz.prog Ki from ⟨H8, B0, H7, F7, trivial⟩)) hp (Aw (by kernel_rfl : Am (Ac Tryz.f348 0) = []) trivial) (by kernel_rfl) Azq
theorem A9s : ∀ d, Bn ⟨Az tys, Ax Ki, Ap Ki, 3, 4⟩ 0 Aa0 Tryz.f348 .plain (mkA Aaz d) = (M9 d.1 d.2.1).run fun r => some (Apu r) := fun d => by kernel_rfl
theorem Am7 : Fn Tryz.prog 348 .plain Apv := Br (Al A2 Au (show A0 Tryz.prog Ki from ⟨H8, B0, H7, F7, trivial⟩)) Tryz.func348 (by kernel_rfl) (by kernel_rfl) (fun cx b hp hb => Aw (by kernel_rfl : Am (Tryz.f348.body.getD .skip) = [Ac Tryz.f348 0]) ⟨Azr cx hp, trivial⟩ b hb) (R := (A6)) (T := fun (d : Bw Aaz) => M9 d.1 d.2.1) A9s
def Apw : List (Bool × List Sh) := [(true, h_7), (false, [.int .i64]), (true, [.int .i64, .int .i64]), (false, [.sl 5 [.int .u8]])]
def A5s (r : (A6) × (Bool × Unit)) : List RV × List RV := ([rv (true, h_7) r.1, rv (false, [.bool]) r.2], [])
def Rg : Fns := [(222, .plain, Qh), (94, .plain, Cy), (95, .plain, X3), (342, .plain, Qf), (348, .plain, Apv)]
def A5t : As := Aq Apw (fun d => (Vx d.1 d.2.1 d.2.2.1 d.2.2.2.1).val) A5s
def Aud : Sk := ⟨[(1, .v false [(.int .i64, .nil)]), (3, .v false [(.sl 5 [.int .u8], .ro)]), (4, .box 4 0), (6, .box 6 0), (8, .box 8 0), (10, .box 10 0), (11, .v false [(.int .i64, .nil)])], [(4, [(.int .i64, .nil), (.int .i64, .nil), (.sl 311 h_5, .ro)]), (6, [(.int .i64, .nil), (.int .i64, .nil)]), (8, [(.int .i64, .nil), (.int .i64, .nil), (.sl 311 h_5, (.own 6000000))]), (10, [(.int .i64, .nil), (.int .i64, .nil), (.sl 311 h_5, (.own 6000001))])], [6000000, 6000001]⟩
def Aue : List (Ex × Sk) := [(.ret, ⟨[(8, .box 8 0), (9, .v false [(.bool, .nil)])], [(8, [(.int .i64, .nil), (.int .i64, .nil), (.sl 311 h_5, (.own 6000000))])], [6000000]⟩), ((.exit 0), ⟨[(1, .v false [(.int .i64, .nil)]), (3, .v false [(.sl 5 [.int .u8], .ro)]), (4, .box 4 0), (6, .box 6 0), (8, .box 8 0), (10, .box 10 0)], [(4, [(.int .i64, .nil), (.int .i64, .nil), (.sl 311 h_5, .ro)]), (6, [(.int .i64, .nil), (.int .i64, .nil)]), (8, [(.int .i64, .nil), (.int .i64, .nil), (.sl 311 h_5, (.own 6000000))]), (10, [(.int .i64, .nil), (.int .i64, .nil), (.sl 311 h_5, (.own 6000001))])], [6000000, 6000001]⟩)]
def Apx : Bl := fun i st => cond (Nat.beq i 5) (lam Aud 6000000 Aue Jt st) <| .fail
theorem A9t : ∀ d, bod ⟨Az tys, Ax Rg, Ap Rg, 3, 4⟩ 0 Tryz.f218.ntmps Apx (Ac Tryz.f218 0) Aud 6000000 Aue d = Jt d := fun d => by kernel_rfl
theorem A9u (cx : Cx) (hp : cx.pin.length ≤ 0) : Bf Tryz.prog cx Tryz.f218.ntmps Apx (Ac Tryz.f218 0) := Bc (Al A2 Au (show A0 Tryz.prog Rg from ⟨H8, B0, Mg, H7, Am7, trivial⟩)) hp (Aw (by kernel_rfl : Am (Ac Tryz.f218 0) = []) trivial) (by kernel_rfl) A9t
theorem Bjb : ∀ d, Bn ⟨Az tys, Ax Rg, Ap Rg, 3, 4⟩ 0 Apx Tryz.f218 .plain (mkA Apw d) = (Vx d.1 d.2.1 d.2.2.1 d.2.2.2.1).run fun r => some (A5s r) := fun d => by kernel_rfl
theorem Bg4 : Fn Tryz.prog 218 .plain A5t := Br (Al A2 Au (show A0 Tryz.prog Rg from ⟨H8, B0, Mg, H7, Am7, trivial⟩)) Tryz.func218 (by kernel_rfl) (by kernel_rfl) (fun cx b hp hb => Aw (by kernel_rfl : Am (Tryz.f218.body.getD .skip) = [Ac Tryz.f218 0]) ⟨A9u cx hp, trivial⟩ b hb) (R := (A6) × (Bool × Unit)) (T := fun (d : Bw Apw) => Vx d.1 d.2.1 d.2.2.1 d.2.2.2.1) Bjb
def Apy : As := Aq [(true, Kd), (false, [.int .i64]), (true, [.int .i64, .int .i64]), (true, D5), (false, [.sl 5 [.int .u8]])] (fun d => (Z5 d.1 d.2.1 d.2.2.1 d.2.2.2.1 d.2.2.2.2.1).val) fun r => ([rv (true, Kd) r.1, rv (false, [.sl 158 Nq]) r.2.1, rv (false, [.sl 93 h_9]) r.2.2.1, rv (false, [.bool]) r.2.2.2], [])
theorem A7i : Fn Tryz.prog 49 .plain Apy := mkF [(210, .plain, Atz), (51, .plain, Ayp), (95, .plain, X3), (211, .plain, Apn), (212, .plain, Azf), (213, .plain, Kg), (109, .plain, A9m), (214, .plain, Azj), (215, .plain, Am5), (216, .plain, Bfg), (217, .plain, Auc), (218, .plain, A5t), (219, .plain, Aay)] ⟨A84, Bc8, Mg, A7b, Bdm, Iw, Bi7, Bdn, A3n, Blo, A9r, Bg4, Am6, trivial⟩ Tryz.func49 (by kernel_rfl) (by kernel_rfl) (by kernel_rfl) 0 fun d => by kernel_rfl
def Di : As := Aq [(false, [.sl 5 [.int .u8]])] (fun d => (Aoo d.1).val) fun r => ([rv (false, [.sl 5 [.int .u8]]) r], [])
theorem Cp : Fn Tryz.prog 168 .plain Di := mkF [] trivial Tryz.func168 (by kernel_rfl) (by kernel_rfl) (by kernel_rfl) 0 fun d => by kernel_rfl
def Afb : As := Aq [(true, [.int .i64, .sl 3 [.int .i64]])] (fun d => (Aee d.1).val) fun r => ([rv (true, [.int .i64, .sl 3 [.int .i64]]) r], [])
theorem Aa1 : Fn Tryz.prog 426 .plain Afb := mkF [] trivial Tryz.func426 (by kernel_rfl) (by kernel_rfl) (by kernel_rfl) 0 fun d => by kernel_rfl
def X5 : As := Aq [(true, h_6)] (fun d => (Ai6 d.1).val) fun r => ([rv (true, h_6) r], [])
theorem Afc : Fn Tryz.prog 389 .plain X5 := mkF [(168, .plain, Di), (426, .plain, Afb)] ⟨Cp, Aa1, trivial⟩ Tryz.func389 (by kernel_rfl) (by kernel_rfl) (by kernel_rfl) 0 fun d => by kernel_rfl
def H9 : As := Aq [(true, Dd)] (fun d => (Z7 d.1).val) fun r => ([rv (true, Dd) r], [])
theorem Ix : Fn Tryz.prog 309 .plain H9 := mkF [(168, .plain, Di), (389, .plain, X5)] ⟨Cp, Afc, trivial⟩ Tryz.func309 (by kernel_rfl) (by kernel_rfl) (by kernel_rfl) 0 fun d => by kernel_rfl
def W0 : List (Bool × List Sh) := [(true, h_7)]
def Am8 (r : (A6)) : List RV × List RV := ([rv (true, h_7) r], [])
def Iy : Fns := [(168, .plain, Di)]
def L4 : As := Aq W0 (fun d => (Lu d.1).val) Am8
def Ack : Sk := ⟨[(2, .box 2 0), (3, .box 3 0), (10, .v false [(.sl 311 h_5, .ro)]), (11, .v false [(.int .i64, .nil)]), (12, .v false [(.int .i64, .nil)])], [(2, [(.int .i64, .nil), (.int .i64, .nil), (.sl 311 h_5, (.own 4000000))]), (3, [(.int .i64, .nil), (.int .i64, .nil), (.sl 311 h_5, (.own 4000001))])], [4000000, 4000001]⟩
def Acl : List (Ex × Sk) := [((.exit 0), ⟨[(2, .box 2 0), (3, .box 3 0)], [(2, [(.int .i64, .nil), (.int .i64, .nil), (.sl 311 h_5, (.own 4000000))]), (3, [(.int .i64, .nil), (.int .i64, .nil), (.sl 311 h_5, (.own 4000001))])], [4000000, 4000001]⟩)]
def W1 : Bl := fun i st => cond (Nat.beq i 3) (lam Ack 4000000 Acl E5 st) <| .fail
theorem Awk : ∀ d, bod ⟨Az tys, Ax Iy, Ap Iy, 3, 4⟩ 0 Tryz.f333.ntmps W1 (Ac Tryz.f333 0) Ack 4000000 Acl d = E5 d := fun d => by kernel_rfl
theorem Awl (cx : Cx) (hp : cx.pin.length ≤ 0) : Bf Tryz.prog cx Tryz.f333.ntmps W1 (Ac Tryz.f333 0) := Bc (Al A2 Au (show A0 Tryz.prog Iy from ⟨Cp, trivial⟩)) hp (Aw (by kernel_rfl : Am (Ac Tryz.f333 0) = []) trivial) (by kernel_rfl) Awk
theorem A7j : ∀ d, Bn ⟨Az tys, Ax Iy, Ap Iy, 3, 4⟩ 0 W1 Tryz.f333 .plain (mkA W0 d) = (Lu d.1).run fun r => some (Am8 r) := fun d => by kernel_rfl
theorem Kj : Fn Tryz.prog 333 .plain L4 := Br (Al A2 Au (show A0 Tryz.prog Iy from ⟨Cp, trivial⟩)) Tryz.func333 (by kernel_rfl) (by kernel_rfl) (fun cx b hp hb => Aw (by kernel_rfl : Am (Tryz.f333.body.getD .skip) = [Ac Tryz.f333 0]) ⟨Awl cx hp, trivial⟩ b hb) (R := (A6)) (T := fun (d : Bw W0) => Lu d.1) A7j
def Apz : As := Aq [(true, Kd)] (fun d => (Z8 d.1).val) fun r => ([rv (true, Kd) r], [])
theorem A7k : Fn Tryz.prog 200 .plain Apz := mkF [(168, .plain, Di), (309, .plain, H9), (333, .plain, L4)] ⟨Cp, Ix, Kj, trivial⟩ Tryz.func200 (by kernel_rfl) (by kernel_rfl) (by kernel_rfl) 0 fun d => by kernel_rfl
def Cd : As := Aq [(false, [.int .i64]), (false, [.int .i64]), (false, [.int .i64])] (fun d => (Ai7 d.1 d.2.1 d.2.2.1).val) fun r => ([rv (false, [.bool]) r], [])
theorem Bu : Fn Tryz.prog 83 .plain Cd := mkF [] trivial Tryz.func83 (by kernel_rfl) (by kernel_rfl) (by kernel_rfl) 0 fun d => by kernel_rfl
def Jz : As := Aq [(false, [.sl 5 [.int .u8]])] (fun d => (Atk d.1).val) fun r => ([rv (false, [.bool]) r], [])
theorem F8 : Fn Tryz.prog 167 .plain Jz := mkF [] trivial Tryz.func167 (by kernel_rfl) (by kernel_rfl) (by kernel_rfl) 0 fun d => by kernel_rfl
def Iz : As := Aq [(false, [.sl 5 [.int .u8]]), (false, [.sl 5 [.int .u8]])] (fun d => (Amm d.1 d.2.1).val) fun r => ([rv (false, [.bool]) r], [])
theorem Kk : Fn Tryz.prog 119 .plain Iz := mkF [] trivial Tryz.func119 (by kernel_rfl) (by kernel_rfl) (by kernel_rfl) 0 fun d => by kernel_rfl
def Aa2 : List (Bool × List Sh) := [(false, [.sl 3 [.int .i64]]), (false, [.sl 3 [.int .i64]])]
def Ap0 (r : (Bool × Unit)) : List RV × List RV := ([rv (false, [.bool]) r], [])
def Kl : Fns := []
def Ap1 : As := Aq Aa2 (fun d => (Na d.1 d.2.1).val) Ap0
def Agv : Sk := ⟨[(1, .v false [(.sl 3 [.int .i64], .ro)]), (12, .v false [(.sl 3 [.int .i64], .ro)]), (13, .v false [(.int .i64, .nil)]), (14, .v false [(.int .i64, .nil)])], [], []⟩
def Agw : List (Ex × Sk) := [(.ret, ⟨[(4, .v false [(.bool, .nil)])], [], []⟩), ((.exit 0), ⟨[], [], []⟩)]
def Aa3 : Bl := fun i st => cond (Nat.beq i 4) (lam Agv 5000000 Agw T7 st) <| .fail
theorem Azs : ∀ d, bod ⟨Az tys, Ax Kl, Ap Kl, 3, 4⟩ 0 Tryz.f393.ntmps Aa3 (Ac Tryz.f393 0) Agv 5000000 Agw d = T7 d := fun d => by kernel_rfl
theorem Azt (cx : Cx) (hp : cx.pin.length ≤ 0) : Bf Tryz.prog cx Tryz.f393.ntmps Aa3 (Ac Tryz.f393 0) := Bc (Al A2 Au (show A0 Tryz.prog Kl from trivial)) hp (Aw (by kernel_rfl : Am (Ac Tryz.f393 0) = []) trivial) (by kernel_rfl) Azs
theorem A9v : ∀ d, Bn ⟨Az tys, Ax Kl, Ap Kl, 3, 4⟩ 0 Aa3 Tryz.f393 .plain (mkA Aa2 d) = (Na d.1 d.2.1).run fun r => some (Ap0 r) := fun d => by kernel_rfl
theorem A7l : Fn Tryz.prog 393 .plain Ap1 := Br (Al A2 Au (show A0 Tryz.prog Kl from trivial)) Tryz.func393 (by kernel_rfl) (by kernel_rfl) (fun cx b hp hb => Aw (by kernel_rfl : Am (Tryz.f393.body.getD .skip) = [Ac Tryz.f393 0]) ⟨Azt cx hp, trivial⟩ b hb) (R := (Bool × Unit)) (T := fun (d : Bw Aa2) => Na d.1 d.2.1) A9v
def Akw : As := Aq [(true, h_6), (true, h_6)] (fun d => (Ai8 d.1 d.2.1).val) fun r => ([rv (false, [.bool]) r], [])
theorem Auf : Fn Tryz.prog 312 .plain Akw := mkF [(119, .plain, Iz), (393, .plain, Ap1)] ⟨Kk, A7l, trivial⟩ Tryz.func312 (by kernel_rfl) (by kernel_rfl) (by kernel_rfl) 0 fun d => by kernel_rfl
def Agx : As := Aq [(true, Dd)] (fun d => (T8 d.1).val) fun r => ([rv (false, [.bool]) r], [])
theorem Azu : Fn Tryz.prog 176 .plain Agx := mkF [(312, .plain, Akw)] ⟨Auf, trivial⟩ Tryz.func176 (by kernel_rfl) (by kernel_rfl) (by kernel_rfl) 0 fun d => by kernel_rfl
def S4 : As := Aq [(false, [.int .i64])] (fun d => (Ai9 d.1).val) fun r => ([rv (false, [.bool]) r], [])
theorem Vk : Fn Tryz.prog 313 .plain S4 := mkF [] trivial Tryz.func313 (by kernel_rfl) (by kernel_rfl) (by kernel_rfl) 0 fun d => by kernel_rfl
def Aa4 : List (Bool × List Sh) := [(false, [.sl 3 [.int .i64]]), (false, [.int .i64])]
def Ap2 (r : (Bool × Unit)) : List RV × List RV := ([rv (false, [.bool]) r], [])
def Km : Fns := [(83, .plain, Cd)]
def S5 : As := Aq Aa4 (fun d => (Nb d.1 d.2.1).val) Ap2
def Agy : Sk := ⟨[(0, .v false [(.sl 3 [.int .i64], .ro)]), (1, .v false [(.int .i64, .nil)]), (7, .v false [(.sl 3 [.int .i64], .ro)]), (8, .v false [(.int .i64, .nil)]), (9, .v false [(.int .i64, .nil)])], [], []⟩
def Agz : List (Ex × Sk) := [(.ret, ⟨[(4, .v false [(.bool, .nil)])], [], []⟩), ((.exit 0), ⟨[(0, .v false [(.sl 3 [.int .i64], .ro)]), (1, .v false [(.int .i64, .nil)])], [], []⟩)]
def Aa5 : Bl := fun i st => cond (Nat.beq i 2) (lam Agy 3000000 Agz Hj st) <| .fail
theorem Azv : ∀ d, bod ⟨Az tys, Ax Km, Ap Km, 3, 4⟩ 0 Tryz.f429.ntmps Aa5 (Ac Tryz.f429 0) Agy 3000000 Agz d = Hj d := fun d => by kernel_rfl
theorem Azw (cx : Cx) (hp : cx.pin.length ≤ 0) : Bf Tryz.prog cx Tryz.f429.ntmps Aa5 (Ac Tryz.f429 0) := Bc (Al A2 Au (show A0 Tryz.prog Km from ⟨Bu, trivial⟩)) hp (Aw (by kernel_rfl : Am (Ac Tryz.f429 0) = []) trivial) (by kernel_rfl) Azv
theorem A9w : ∀ d, Bn ⟨Az tys, Ax Km, Ap Km, 3, 4⟩ 0 Aa5 Tryz.f429 .plain (mkA Aa4 d) = (Nb d.1 d.2.1).run fun r => some (Ap2 r) := fun d => by kernel_rfl
theorem I0 : Fn Tryz.prog 429 .plain S5 := Br (Al A2 Au (show A0 Tryz.prog Km from ⟨Bu, trivial⟩)) Tryz.func429 (by kernel_rfl) (by kernel_rfl) (fun cx b hp hb => Aw (by kernel_rfl : Am (Tryz.f429.body.getD .skip) = [Ac Tryz.f429 0]) ⟨Azw cx hp, trivial⟩ b hb) (R := (Bool × Unit)) (T := fun (d : Bw Aa4) => Nb d.1 d.2.1) A9w
def Akx : As := Aq [(true, [.int .i64, .sl 3 [.int .i64]]), (false, [.int .i64])] (fun d => (Aja d.1 d.2.1).val) fun r => ([rv (false, [.bool]) r], [])
theorem Afd : Fn Tryz.prog 430 .plain Akx := mkF [] trivial Tryz.func430 (by kernel_rfl) (by kernel_rfl) (by kernel_rfl) 0 fun d => by kernel_rfl
def Ap3 : List (Bool × List Sh) := [(true, [.int .i64, .sl 3 [.int .i64]])]
def A5u (r : (Bool × Unit)) : List RV × List RV := ([rv (false, [.bool]) r], [])
def Rh : Fns := [(83, .plain, Cd), (429, .plain, S5), (430, .plain, Akx)]
def Ap4 : As := Aq Ap3 (fun d => (Vy d.1).val) A5u
def Aug : Sk := ⟨[(1, .box 1 0), (3, .v false [(.int .i64, .nil)])], [(1, [(.int .i64, .nil), (.sl 3 [.int .i64], .ro)])], []⟩
def Auh : List (Ex × Sk) := [(.ret, ⟨[(2, .v false [(.bool, .nil)])], [], []⟩), ((.exit 0), ⟨[(1, .box 1 0)], [(1, [(.int .i64, .nil), (.sl 3 [.int .i64], .ro)])], []⟩)]
def Ap5 : Bl := fun i st => cond (Nat.beq i 4) (lam Aug 5000000 Auh Ju st) <| .fail
theorem A9x : ∀ d, bod ⟨Az tys, Ax Rh, Ap Rh, 3, 4⟩ 0 Tryz.f394.ntmps Ap5 (Ac Tryz.f394 0) Aug 5000000 Auh d = Ju d := fun d => by kernel_rfl
theorem A9y (cx : Cx) (hp : cx.pin.length ≤ 0) : Bf Tryz.prog cx Tryz.f394.ntmps Ap5 (Ac Tryz.f394 0) := Bc (Al A2 Au (show A0 Tryz.prog Rh from ⟨Bu, I0, Afd, trivial⟩)) hp (Aw (by kernel_rfl : Am (Ac Tryz.f394 0) = []) trivial) (by kernel_rfl) A9x
theorem Bjc : ∀ d, Bn ⟨Az tys, Ax Rh, Ap Rh, 3, 4⟩ 0 Ap5 Tryz.f394 .plain (mkA Ap3 d) = (Vy d.1).run fun r => some (A5u r) := fun d => by kernel_rfl
theorem Azx : Fn Tryz.prog 394 .plain Ap4 := Br (Al A2 Au (show A0 Tryz.prog Rh from ⟨Bu, I0, Afd, trivial⟩)) Tryz.func394 (by kernel_rfl) (by kernel_rfl) (fun cx b hp hb => Aw (by kernel_rfl : Am (Tryz.f394.body.getD .skip) = [Ac Tryz.f394 0]) ⟨A9y cx hp, trivial⟩ b hb) (R := (Bool × Unit)) (T := fun (d : Bw Ap3) => Vy d.1) Bjc
def Aa6 : As := Aq [(true, h_6)] (fun d => (Avs d.1).val) fun r => ([rv (false, [.bool]) r], [])
theorem Acm : Fn Tryz.prog 314 .plain Aa6 := mkF [(83, .plain, Cd), (394, .plain, Ap4)] ⟨Bu, Azx, trivial⟩ Tryz.func314 (by kernel_rfl) (by kernel_rfl) (by kernel_rfl) 0 fun d => by kernel_rfl
def A5v : As := Aq [(true, Dd)] (fun d => (Aop d.1).val) fun r => ([rv (false, [.bool]) r], [])
theorem Bg5 : Fn Tryz.prog 315 .plain A5v := mkF [(312, .plain, Akw), (314, .plain, Aa6), (83, .plain, Cd)] ⟨Auf, Acm, Bu, trivial⟩ Tryz.func315 (by kernel_rfl) (by kernel_rfl) (by kernel_rfl) 0 fun d => by kernel_rfl
def Je : As := Aq [(true, Dd)] (fun d => (Ajb d.1).val) fun r => ([rv (false, [.bool]) r], [])
theorem J0 : Fn Tryz.prog 179 .plain Je := mkF [(313, .plain, S4), (167, .plain, Jz), (314, .plain, Aa6), (315, .plain, A5v)] ⟨Vk, F8, Acm, Bg5, trivial⟩ Tryz.func179 (by kernel_rfl) (by kernel_rfl) (by kernel_rfl) 0 fun d => by kernel_rfl
def X6 : As := Aq [(true, [.int .i64, .int .i64])] (fun d => (Ajc d.1).val) fun r => ([rv (false, [.bool]) r], [])
theorem Qk : Fn Tryz.prog 84 .plain X6 := mkF [(83, .plain, Cd)] ⟨Bu, trivial⟩ Tryz.func84 (by kernel_rfl) (by kernel_rfl) (by kernel_rfl) 0 fun d => by kernel_rfl
def Afe : List (Bool × List Sh) := [(true, h_7)]
def Aui (r : (Bool × Unit)) : List RV × List RV := ([rv (false, [.bool]) r], [])
def Fz : Fns := [(84, .plain, X6), (167, .plain, Jz), (83, .plain, Cd)]
def Vl : As := Aq Afe (fun d => (P7 d.1).val) Aui
def Am9 : Sk := ⟨[(1, .box 1 0), (18, .v false [(.sl 311 h_5, .ro)]), (19, .v false [(.int .i64, .nil)]), (20, .v false [(.int .i64, .nil)])], [(1, [(.int .i64, .nil), (.int .i64, .nil), (.sl 311 h_5, .ro)])], []⟩
def Ana : List (Ex × Sk) := [(.ret, ⟨[(2, .v false [(.bool, .nil)])], [], []⟩), ((.exit 0), ⟨[], [], []⟩)]
def Anb : Sk := ⟨[(1, .box 1 0), (4, .box 4 0), (18, .v false [(.sl 311 h_5, .ro)]), (19, .v false [(.int .i64, .nil)]), (20, .v false [(.int .i64, .nil)]), (51, .v false [(.sl 311 h_5, .ro)]), (52, .v false [(.int .i64, .nil)]), (53, .v false [(.int .i64, .nil)])], [(1, [(.int .i64, .nil), (.int .i64, .nil), (.sl 311 h_5, .ro)]), (4, [(.int .i64, .nil), (.int .i64, .nil), (.sl 5 [.int .u8], .ro), (.int .i64, .nil)])], []⟩
def Anc : List (Ex × Sk) := [(.ret, ⟨[(2, .v false [(.bool, .nil)])], [], []⟩), ((.exit 2), ⟨[(1, .box 1 0), (18, .v false [(.sl 311 h_5, .ro)]), (19, .v false [(.int .i64, .nil)]), (20, .v false [(.int .i64, .nil)])], [(1, [(.int .i64, .nil), (.int .i64, .nil), (.sl 311 h_5, .ro)])], []⟩)]
def Ql : Bl := fun i st => cond (Nat.beq i 9) (lam Anb 10000000 Anc Gt st) <| cond (Nat.beq i 4) (lam Am9 5000000 Ana Iq st) <| .fail
theorem A3o : ∀ d, bod ⟨Az tys, Ax Fz, Ap Fz, 3, 4⟩ 0 Tryz.f220.ntmps Ql (Ac Tryz.f220 1) Anb 10000000 Anc d = Gt d := fun d => by kernel_rfl
theorem A3p (cx : Cx) (hp : cx.pin.length ≤ 0) : Bf Tryz.prog cx Tryz.f220.ntmps Ql (Ac Tryz.f220 1) := Bc (Al A2 Au (show A0 Tryz.prog Fz from ⟨Qk, F8, Bu, trivial⟩)) hp (Aw (by kernel_rfl : Am (Ac Tryz.f220 1) = []) trivial) (by kernel_rfl) A3o
theorem A3q : ∀ d, bod ⟨Az tys, Ax Fz, Ap Fz, 3, 4⟩ 0 Tryz.f220.ntmps Ql (Ac Tryz.f220 0) Am9 5000000 Ana d = Iq d := fun d => by kernel_rfl
theorem A3r (cx : Cx) (hp : cx.pin.length ≤ 0) : Bf Tryz.prog cx Tryz.f220.ntmps Ql (Ac Tryz.f220 0) := Bc (Al A2 Au (show A0 Tryz.prog Fz from ⟨Qk, F8, Bu, trivial⟩)) hp (Aw (by kernel_rfl : Am (Ac Tryz.f220 0) = [Ac Tryz.f220 1]) ⟨A3p cx hp, trivial⟩) (by kernel_rfl) A3q
theorem Bdt : ∀ d, Bn ⟨Az tys, Ax Fz, Ap Fz, 3, 4⟩ 0 Ql Tryz.f220 .plain (mkA Afe d) = (P7 d.1).run fun r => some (Aui r) := fun d => by kernel_rfl
theorem Aa7 : Fn Tryz.prog 220 .plain Vl := Br (Al A2 Au (show A0 Tryz.prog Fz from ⟨Qk, F8, Bu, trivial⟩)) Tryz.func220 (by kernel_rfl) (by kernel_rfl) (fun cx b hp hb => Aw (by kernel_rfl : Am (Tryz.f220.body.getD .skip) = [Ac Tryz.f220 0]) ⟨A3r cx hp, trivial⟩ b hb) (R := (Bool × Unit)) (T := fun (d : Bw Afe) => P7 d.1) Bdt
def Azy : As := Aq [(true, Kd)] (fun d => (Ajd d.1).val) fun r => ([rv (false, [.bool]) r], [])
theorem Bdu : Fn Tryz.prog 50 .plain Azy := mkF [(83, .plain, Cd), (167, .plain, Jz), (176, .plain, Agx), (179, .plain, Je), (119, .plain, Iz), (220, .plain, Vl)] ⟨Bu, F8, Azu, J0, Kk, Aa7, trivial⟩ Tryz.func50 (by kernel_rfl) (by kernel_rfl) (by kernel_rfl) 0 fun d => by kernel_rfl
def S6 : As := Aq [(false, [.int .i64])] (fun d => (Ajf d.1).val) fun r => ([rv (false, [.bool]) r], [])
theorem Vm : Fn Tryz.prog 88 .plain S6 := mkF [(83, .plain, Cd)] ⟨Bu, trivial⟩ Tryz.func88 (by kernel_rfl) (by kernel_rfl) (by kernel_rfl) 0 fun d => by kernel_rfl
def Azz : As := Aq [(false, [.int .i64]), (false, [.int .i64])] (fun d => (Ajg d.1 d.2.1).val) fun r => ([rv (false, [.bool]) r], [])
theorem Bdv : Fn Tryz.prog 293 .plain Azz := mkF [] trivial Tryz.func293 (by kernel_rfl) (by kernel_rfl) (by kernel_rfl) 0 fun d => by kernel_rfl
def Ane : As := Aq [(true, D5), (true, D5)] (fun d => (Wl d.1 d.2.1).val) fun r => ([rv (false, [.bool]) r], [])
theorem A3s : Fn Tryz.prog 175 .plain Ane := mkF [(119, .plain, Iz)] ⟨Kk, trivial⟩ Tryz.func175 (by kernel_rfl) (by kernel_rfl) (by kernel_rfl) 0 fun d => by kernel_rfl
def Vn : As := Aq [(true, D5)] (fun d => (Aef d.1).val) fun r => ([rv (false, [.bool]) r], [])
theorem Aa8 : Fn Tryz.prog 118 .plain Vn := mkF [(83, .plain, Cd), (167, .plain, Jz), (88, .plain, S6), (293, .plain, Azz), (175, .plain, Ane)] ⟨Bu, F8, Vm, Bdv, A3s, trivial⟩ Tryz.func118 (by kernel_rfl) (by kernel_rfl) (by kernel_rfl) 0 fun d => by kernel_rfl
def Awm : List (Bool × List Sh) := [(false, [.sl 5 [.int .u8]]), (false, [.sl 5 [.int .u8]])]
def A9z (r : (YI)) : List RV × List RV := ([rv (false, [.int .i64]) r], [])
def Ul : Fns := []
def Awn : As := Aq Awm (fun d => (Aab d.1 d.2.1).val) A9z
def Az0 : Sk := ⟨[(0, .v false [(.sl 5 [.int .u8], .ro)]), (1, .v false [(.sl 5 [.int .u8], .ro)]), (5, .v false [(.int .i64, .nil)]), (13, .v false [(.int .i64, .nil)]), (14, .v false [(.int .i64, .nil)])], [], []⟩
def Az1 : List (Ex × Sk) := [((.exit 0), ⟨[(5, .v false [(.int .i64, .nil)])], [], []⟩)]
def Awo : Bl := fun i st => cond (Nat.beq i 5) (lam Az0 6000000 Az1 Oz st) <| .fail
theorem Bdw : ∀ d, bod ⟨Az tys, Ax Ul, Ap Ul, 3, 4⟩ 0 Tryz.f334.ntmps Awo (Ac Tryz.f334 0) Az0 6000000 Az1 d = Oz d := fun d => by kernel_rfl
theorem Bdx (cx : Cx) (hp : cx.pin.length ≤ 0) : Bf Tryz.prog cx Tryz.f334.ntmps Awo (Ac Tryz.f334 0) := Bc (Al A2 Au (show A0 Tryz.prog Ul from trivial)) hp (Aw (by kernel_rfl : Am (Ac Tryz.f334 0) = []) trivial) (by kernel_rfl) Bdw
theorem Blp : ∀ d, Bn ⟨Az tys, Ax Ul, Ap Ul, 3, 4⟩ 0 Awo Tryz.f334 .plain (mkA Awm d) = (Aab d.1 d.2.1).run fun r => some (A9z r) := fun d => by kernel_rfl
theorem A5w : Fn Tryz.prog 334 .plain Awn := Br (Al A2 Au (show A0 Tryz.prog Ul from trivial)) Tryz.func334 (by kernel_rfl) (by kernel_rfl) (fun cx b hp hb => Aw (by kernel_rfl : Am (Tryz.f334.body.getD .skip) = [Ac Tryz.f334 0]) ⟨Bdx cx hp, trivial⟩ b hb) (R := (YI)) (T := fun (d : Bw Awm) => Aab d.1 d.2.1) Blp
def Az2 : As := Aq [] (fun d => (Aji ).val) fun r => ([rv (true, [.int .i64, .sl 3 [.int .i64]]) r], [])
theorem Bdy : Fn Tryz.prog 401 .plain Az2 := mkF [] trivial Tryz.func401 (by kernel_rfl) (by kernel_rfl) (by kernel_rfl) 0 fun d => by kernel_rfl
def Ap6 : As := Aq [(false, [.int .i64]), (false, [.sl 5 [.int .u8]])] (fun d => (Ab7 d.1 d.2.1).val) fun r => ([rv (true, h_6) r], [])
theorem Az3 : Fn Tryz.prog 335 .plain Ap6 := mkF [(83, .plain, Cd), (168, .plain, Di), (401, .plain, Az2)] ⟨Bu, Cp, Bdy, trivial⟩ Tryz.func335 (by kernel_rfl) (by kernel_rfl) (by kernel_rfl) 0 fun d => by kernel_rfl
def Awp : List (Bool × List Sh) := [(false, [.sl 5 [.int .u8]]), (false, [.int .i64]), (false, [.int .i64])]
def A90 (r : (YBs)) : List RV × List RV := ([rv (false, [.sl 5 [.int .u8]]) r], [])
def Um : Fns := []
def Un : As := Aq Awp (fun d => (Ajk d.1 d.2.1 d.2.2.1).val) A90
def Az4 : Sk := ⟨[(1, .v false [(.int .i64, .nil)]), (7, .v false [(.sl 5 [.int .u8], (.own 6000000))]), (8, .v false [(.int .i64, .nil)])], [], [6000000]⟩
def Az5 : List (Ex × Sk) := [((.exit 0), ⟨[(7, .v false [(.sl 5 [.int .u8], (.own 6000000))])], [], [6000000]⟩)]
def Awq : Bl := fun i st => cond (Nat.beq i 5) (lam Az4 6000000 Az5 Ajj st) <| .fail
theorem Bdz : ∀ d, bod ⟨Az tys, Ax Um, Ap Um, 3, 4⟩ 0 Tryz.f295.ntmps Awq (Ac Tryz.f295 0) Az4 6000000 Az5 d = Ajj d := fun d => by kernel_rfl
theorem Bd0 (cx : Cx) (hp : cx.pin.length ≤ 0) : Bf Tryz.prog cx Tryz.f295.ntmps Awq (Ac Tryz.f295 0) := Bc (Al A2 Au (show A0 Tryz.prog Um from trivial)) hp (Aw (by kernel_rfl : Am (Ac Tryz.f295 0) = []) trivial) (by kernel_rfl) Bdz
theorem Blq : ∀ d, Bn ⟨Az tys, Ax Um, Ap Um, 3, 4⟩ 0 Awq Tryz.f295 .plain (mkA Awp d) = (Ajk d.1 d.2.1 d.2.2.1).run fun r => some (A90 r) := fun d => by kernel_rfl
theorem Nv : Fn Tryz.prog 295 .plain Un := Br (Al A2 Au (show A0 Tryz.prog Um from trivial)) Tryz.func295 (by kernel_rfl) (by kernel_rfl) (fun cx b hp hb => Aw (by kernel_rfl : Am (Tryz.f295.body.getD .skip) = [Ac Tryz.f295 0]) ⟨Bd0 cx hp, trivial⟩ b hb) (R := (YBs)) (T := fun (d : Bw Awp) => Ajk d.1 d.2.1 d.2.2.1) Blq
def Aky : List (Bool × List Sh) := [(false, [.sl 22 [.sl 5 [.int .u8]]])]
def Az6 (r : (YBs)) : List RV × List RV := ([rv (false, [.sl 5 [.int .u8]]) r], [])
def Pg : Fns := []
def Jf : As := Aq Aky (fun d => (Sd d.1).val) Az6
def Ap7 : Sk := ⟨[(3, .v false [(.sl 5 [.int .u8], (.own 4000000))]), (7, .v false [(.sl 22 [.sl 5 [.int .u8]], .ro)]), (8, .v false [(.int .i64, .nil)]), (9, .v false [(.int .i64, .nil)])], [], [4000000]⟩
def Ap8 : List (Ex × Sk) := [((.exit 0), ⟨[(3, .v false [(.sl 5 [.int .u8], (.own 4000000))])], [], [4000000]⟩)]
def Akz : Bl := fun i st => cond (Nat.beq i 3) (lam Ap7 4000000 Ap8 H1 st) <| .fail
theorem A7m : ∀ d, bod ⟨Az tys, Ax Pg, Ap Pg, 3, 4⟩ 0 Tryz.f294.ntmps Akz (Ac Tryz.f294 0) Ap7 4000000 Ap8 d = H1 d := fun d => by kernel_rfl
theorem A7n (cx : Cx) (hp : cx.pin.length ≤ 0) : Bf Tryz.prog cx Tryz.f294.ntmps Akz (Ac Tryz.f294 0) := Bc (Al A2 Au (show A0 Tryz.prog Pg from trivial)) hp (Aw (by kernel_rfl : Am (Ac Tryz.f294 0) = []) trivial) (by kernel_rfl) A7m
theorem Bg6 : ∀ d, Bn ⟨Az tys, Ax Pg, Ap Pg, 3, 4⟩ 0 Akz Tryz.f294 .plain (mkA Aky d) = (Sd d.1).run fun r => some (Az6 r) := fun d => by kernel_rfl
theorem Hf : Fn Tryz.prog 294 .plain Jf := Br (Al A2 Au (show A0 Tryz.prog Pg from trivial)) Tryz.func294 (by kernel_rfl) (by kernel_rfl) (fun cx b hp hb => Aw (by kernel_rfl : Am (Tryz.f294.body.getD .skip) = [Ac Tryz.f294 0]) ⟨A7n cx hp, trivial⟩ b hb) (R := (YBs)) (T := fun (d : Bw Aky) => Sd d.1) Bg6
def X7 : As := Aq [(false, [.int .i64]), (false, [.sl 5 [.int .u8]]), (false, [.int .i64]), (false, [.int .i64])] (fun d => (Ajl d.1 d.2.1 d.2.2.1 d.2.2.2.1).val) fun r => ([rv (false, [.sl 5 [.int .u8]]) r], [])
theorem Aff : Fn Tryz.prog 337 .plain X7 := mkF [(313, .plain, S4), (167, .plain, Jz), (83, .plain, Cd), (295, .plain, Un), (294, .plain, Jf)] ⟨Vk, F8, Bu, Nv, Hf, trivial⟩ Tryz.func337 (by kernel_rfl) (by kernel_rfl) (by kernel_rfl) 0 fun d => by kernel_rfl
def Kn : As := Aq [(false, [.int .i64]), (true, D5)] (fun d => (Aac d.1 d.2.1).val) fun r => ([rv (false, [.sl 5 [.int .u8]]) r], [])
theorem L5 : Fn Tryz.prog 204 .plain Kn := mkF [(313, .plain, S4), (88, .plain, S6), (118, .plain, Vn), (337, .plain, X7), (294, .plain, Jf)] ⟨Vk, Vm, Aa8, Aff, Hf, trivial⟩ Tryz.func204 (by kernel_rfl) (by kernel_rfl) (by kernel_rfl) 0 fun d => by kernel_rfl
def Az7 : As := Aq [(true, [.int .i64, .sl 3 [.int .i64]]), (false, [.int .i64])] (fun d => (Ajm d.1 d.2.1).val) fun r => ([rv (false, [.bool]) r], [])
theorem Auj : Fn Tryz.prog 433 .plain Az7 := mkF [(394, .plain, Ap4), (83, .plain, Cd), (430, .plain, Akx)] ⟨Azx, Bu, Afd, trivial⟩ Tryz.func433 (by kernel_rfl) (by kernel_rfl) (by kernel_rfl) 0 fun d => by kernel_rfl
def Ak0 : List (Bool × List Sh) := [(true, [.int .i64, .sl 3 [.int .i64]]), (false, [.int .i64])]
def Az8 (r : (Bo) × (Bool × Unit)) : List RV × List RV := ([rv (true, [.int .i64, .sl 3 [.int .i64]]) r.1, rv (false, [.bool]) r.2], [])
def Ph : Fns := [(426, .plain, Afb), (433, .plain, Az7)]
def Az9 : As := Aq Ak0 (fun d => (Sf d.1 d.2.1).val) Az8
def Ap9 : Sk := ⟨[(1, .v false [(.int .i64, .nil)]), (2, .box 2 0), (4, .box 4 0), (6, .box 6 0), (7, .v false [(.int .i64, .nil)])], [(2, [(.int .i64, .nil), (.sl 3 [.int .i64], .ro)]), (4, [(.int .i64, .nil), (.sl 3 [.int .i64], (.own 6000000))]), (6, [(.int .i64, .nil), (.sl 3 [.int .i64], (.own 6000001))])], [6000000, 6000001]⟩
def Aqa : List (Ex × Sk) := [((.exit 0), ⟨[(1, .v false [(.int .i64, .nil)]), (2, .box 2 0), (4, .box 4 0), (6, .box 6 0)], [(2, [(.int .i64, .nil), (.sl 3 [.int .i64], .ro)]), (4, [(.int .i64, .nil), (.sl 3 [.int .i64], (.own 6000000))]), (6, [(.int .i64, .nil), (.sl 3 [.int .i64], (.own 6000001))])], [6000000, 6000001]⟩)]
def Ak1 : Bl := fun i st => cond (Nat.beq i 5) (lam Ap9 6000000 Aqa H3 st) <| .fail
theorem A7o : ∀ d, bod ⟨Az tys, Ax Ph, Ap Ph, 3, 4⟩ 0 Tryz.f402.ntmps Ak1 (Ac Tryz.f402 0) Ap9 6000000 Aqa d = H3 d := fun d => by kernel_rfl
theorem A7p (cx : Cx) (hp : cx.pin.length ≤ 0) : Bf Tryz.prog cx Tryz.f402.ntmps Ak1 (Ac Tryz.f402 0) := Bc (Al A2 Au (show A0 Tryz.prog Ph from ⟨Aa1, Auj, trivial⟩)) hp (Aw (by kernel_rfl : Am (Ac Tryz.f402 0) = []) trivial) (by kernel_rfl) A7o
theorem Bg7 : ∀ d, Bn ⟨Az tys, Ax Ph, Ap Ph, 3, 4⟩ 0 Ak1 Tryz.f402 .plain (mkA Ak0 d) = (Sf d.1 d.2.1).run fun r => some (Az8 r) := fun d => by kernel_rfl
theorem Bd1 : Fn Tryz.prog 402 .plain Az9 := Br (Al A2 Au (show A0 Tryz.prog Ph from ⟨Aa1, Auj, trivial⟩)) Tryz.func402 (by kernel_rfl) (by kernel_rfl) (fun cx b hp hb => Aw (by kernel_rfl : Am (Tryz.f402.body.getD .skip) = [Ac Tryz.f402 0]) ⟨A7p cx hp, trivial⟩ b hb) (R := (Bo) × (Bool × Unit)) (T := fun (d : Bw Ak0) => Sf d.1 d.2.1) Bg7
def A5x : As := Aq [] (fun d => (A5d ).val) fun r => ([rv (false, [.sl 3 [.int .i64]]) r], [])
theorem Bg8 : Fn Tryz.prog 462 .plain A5x := mkF [] trivial Tryz.func462 (by kernel_rfl) (by kernel_rfl) (by kernel_rfl) 0 fun d => by kernel_rfl
def Auk : As := Aq [] (fun d => (Atl ).val) fun r => ([rv (true, h_4) r], [])
theorem A91 : Fn Tryz.prog 452 .plain Auk := mkF [(462, .plain, A5x)] ⟨Bg8, trivial⟩ Tryz.func452 (by kernel_rfl) (by kernel_rfl) (by kernel_rfl) 0 fun d => by kernel_rfl
def Ak2 : As := Aq [(true, h_4)] (fun d => (Ajp d.1).val) fun r => ([rv (false, [.bool]) r], [])
theorem Aul : Fn Tryz.prog 458 .plain Ak2 := mkF [(429, .plain, S5), (83, .plain, Cd)] ⟨I0, Bu, trivial⟩ Tryz.func458 (by kernel_rfl) (by kernel_rfl) (by kernel_rfl) 0 fun d => by kernel_rfl
def Bfh : As := Aq [(false, [.sl 5 [.int .u8]]), (false, [.int .i64]), (false, [.int .i64])] (fun d => (A2s d.1 d.2.1 d.2.2.1).val) fun r => ([rv (false, [.sl 5 [.int .u8]]) r.1, rv (false, [.bool]) r.2], [])
theorem A92 : Fn Tryz.prog 383 .plain Bfh := mkF [] trivial Tryz.func383 (by kernel_rfl) (by kernel_rfl) (by kernel_rfl) 0 fun d => by kernel_rfl
def Awr : List (Bool × List Sh) := [(false, [.sl 5 [.int .u8]]), (false, [.int .i64]), (false, [.int .i64])]
def A93 (r : (YI) × (YI) × (Bool × Unit)) : List RV × List RV := ([rv (false, [.int .i64]) r.1, rv (false, [.int .i64]) r.2.1, rv (false, [.bool]) r.2.2], [])
def Uo : Fns := [(383, .plain, Bfh)]
def A94 : As := Aq Awr (fun d => (Aad d.1 d.2.1 d.2.2.1).val) A93
def A0a : Sk := ⟨[(1, .v false [(.int .i64, .nil)]), (2, .v false [(.int .i64, .nil)]), (11, .v false [(.int .i64, .nil)]), (29, .v false [(.sl 5 [.int .u8], (.own 9000000))]), (30, .v false [(.int .i64, .nil)]), (31, .v false [(.int .i64, .nil)])], [], [9000000]⟩
def A0b : List (Ex × Sk) := [((.exit 0), ⟨[(1, .v false [(.int .i64, .nil)]), (2, .v false [(.int .i64, .nil)]), (11, .v false [(.int .i64, .nil)])], [], []⟩)]
def Aws : Bl := fun i st => cond (Nat.beq i 8) (lam A0a 9000000 A0b Li st) <| .fail
theorem Bd2 : ∀ d, bod ⟨Az tys, Ax Uo, Ap Uo, 3, 4⟩ 0 Tryz.f292.ntmps Aws (Ac Tryz.f292 0) A0a 9000000 A0b d = Li d := fun d => by kernel_rfl
theorem Bd3 (cx : Cx) (hp : cx.pin.length ≤ 0) : Bf Tryz.prog cx Tryz.f292.ntmps Aws (Ac Tryz.f292 0) := Bc (Al A2 Au (show A0 Tryz.prog Uo from ⟨A92, trivial⟩)) hp (Aw (by kernel_rfl : Am (Ac Tryz.f292 0) = []) trivial) (by kernel_rfl) Bd2
theorem Blr : ∀ d, Bn ⟨Az tys, Ax Uo, Ap Uo, 3, 4⟩ 0 Aws Tryz.f292 .plain (mkA Awr d) = (Aad d.1 d.2.1 d.2.2.1).run fun r => some (A93 r) := fun d => by kernel_rfl
theorem Aqb : Fn Tryz.prog 292 .plain A94 := Br (Al A2 Au (show A0 Tryz.prog Uo from ⟨A92, trivial⟩)) Tryz.func292 (by kernel_rfl) (by kernel_rfl) (fun cx b hp hb => Aw (by kernel_rfl : Am (Tryz.f292.body.getD .skip) = [Ac Tryz.f292 0]) ⟨Bd3 cx hp, trivial⟩ b hb) (R := (YI) × (YI) × (Bool × Unit)) (T := fun (d : Bw Awr) => Aad d.1 d.2.1 d.2.2.1) Blr
def A3t : As := Aq [(false, [.int .i64]), (false, [.int .i64])] (fun d => (A2u d.1 d.2.1).val) fun r => ([rv (false, [.int .i64]) r], [])
theorem Up : Fn Tryz.prog 465 .plain A3t := mkF [] trivial Tryz.func465 (by kernel_rfl) (by kernel_rfl) (by kernel_rfl) 0 fun d => by kernel_rfl
def Aa9 : List (Bool × List Sh) := [(false, [.sl 5 [.int .u8]])]
def Aqc (r : ((List YI) × Unit)) : List RV × List RV := ([rv (false, [.sl 3 [.int .i64]]) r], [])
def Fa : Fns := [(292, .plain, A94), (465, .plain, A3t)]
def Aqd : As := Aq Aa9 (fun d => (Nf d.1).val) Aqc
def Ag0 : Sk := ⟨[(3, .v false [(.sl 3 [.int .i64], (.own 10000000))]), (5, .v false [(.int .i64, .nil)])], [], [10000000]⟩
def Ag1 : List (Ex × Sk) := [((.exit 2), ⟨[(3, .v false [(.sl 3 [.int .i64], (.own 10000000))])], [], [10000000]⟩)]
def Ag2 : Sk := ⟨[(0, .v false [(.sl 5 [.int .u8], .ro)]), (3, .v false [(.sl 3 [.int .i64], (.own 6000000))]), (4, .v false [(.int .i64, .nil)])], [], [6000000]⟩
def Ag3 : List (Ex × Sk) := [((.exit 0), ⟨[(3, .v false [(.sl 3 [.int .i64], (.own 6000000))])], [], [6000000]⟩)]
def Nw : Bl := fun i st => cond (Nat.beq i 5) (lam Ag2 6000000 Ag3 Hk st) <| cond (Nat.beq i 9) (lam Ag0 10000000 Ag1 Hl st) <| .fail
theorem A0c : ∀ d, bod ⟨Az tys, Ax Fa, Ap Fa, 3, 4⟩ 0 Tryz.f464.ntmps Nw (Ac Tryz.f464 0) Ag2 6000000 Ag3 d = Hk d := fun d => by kernel_rfl
theorem A0d (cx : Cx) (hp : cx.pin.length ≤ 0) : Bf Tryz.prog cx Tryz.f464.ntmps Nw (Ac Tryz.f464 0) := Bc (Al A2 Au (show A0 Tryz.prog Fa from ⟨Aqb, Up, trivial⟩)) hp (Aw (by kernel_rfl : Am (Ac Tryz.f464 0) = []) trivial) (by kernel_rfl) A0c
theorem A0e : ∀ d, bod ⟨Az tys, Ax Fa, Ap Fa, 3, 4⟩ 0 Tryz.f464.ntmps Nw (Ac Tryz.f464 1) Ag0 10000000 Ag1 d = Hl d := fun d => by kernel_rfl
theorem A0f (cx : Cx) (hp : cx.pin.length ≤ 0) : Bf Tryz.prog cx Tryz.f464.ntmps Nw (Ac Tryz.f464 1) := Bc (Al A2 Au (show A0 Tryz.prog Fa from ⟨Aqb, Up, trivial⟩)) hp (Aw (by kernel_rfl : Am (Ac Tryz.f464 1) = []) trivial) (by kernel_rfl) A0e
theorem A95 : ∀ d, Bn ⟨Az tys, Ax Fa, Ap Fa, 3, 4⟩ 0 Nw Tryz.f464 .plain (mkA Aa9 d) = (Nf d.1).run fun r => some (Aqc r) := fun d => by kernel_rfl
theorem W2 : Fn Tryz.prog 464 .plain Aqd := Br (Al A2 Au (show A0 Tryz.prog Fa from ⟨Aqb, Up, trivial⟩)) Tryz.func464 (by kernel_rfl) (by kernel_rfl) (fun cx b hp hb => Aw (by kernel_rfl : Am (Tryz.f464.body.getD .skip) = [Ac Tryz.f464 0, Ac Tryz.f464 1]) ⟨A0d cx hp, A0f cx hp, trivial⟩ b hb) (R := ((List YI) × Unit)) (T := fun (d : Bw Aa9) => Nf d.1) A95
theorem Bjd (n : Int) (w : World) (h0 : 0 ≤ n) (h1 : n ≤ 63) :
  Calls Tryz.prog 466 #[.int .i64 n] w (Ret w (.int .i64 (Qm[n.toNat]?.getD 0))) := by
 have hx : ∃ x, Qm[n.toNat]? = some x := ⟨_, List.getElem?_eq_getElem (by simp [Qm]; omega)⟩
 obtain ⟨x, hx⟩ := hx
 have hcell : (Aqe 387 w A0g).cell? ⟨w.heap.size, n.toNat, none⟩ = some (.int .i64 x) := by
  rw [Bd4]; unfold A0g; rw [List.getElem?_toArray, List.getElem?_map, hx]; rfl
 rw [hx]
 go_enter Tryz.func466, Tryz.ntmps466
 go_wp2_with (first | (refine A7q rfl 387 _ rfl A0g (by kernel_rfl) ?_) | (refine A7r rfl 387 rfl _ _ A0h (by kernel_rfl) (by kernel_rfl) (by kernel_rfl) ?_) | (refine A7s rfl 387 _ _ rfl A0g rfl rfl (by kernel_rfl) (by kernel_rfl) (by kernel_rfl) ?_))
 go_ret
 refine Ret.mk rfl ?_
 rw [Bje]
 exact (Ch.refl _).alloc _
theorem Bjf (n : Int) (w : World) (h0 : ¬ (0 ≤ n ∧ n ≤ 63)) :
  Calls Tryz.prog 466 #[.int .i64 n] w (Ret w (.int .i64 0)) := by
 by_cases h : n < 0
 ·go_enter Tryz.func466, Tryz.ntmps466
  go_wp2_with fail
  go_ret
  exact Ret.mk rfl (Ch.refl _)
 ·have h2 : 63 < n := by omega
  go_enter Tryz.func466, Tryz.ntmps466
  go_wp2_with fail
  go_ret
  exact Ret.mk rfl (Ch.refl _)
def A7t : List (Bool × List Sh) := [(false, [.int .i64])]
def A7u (r : YI) : List RV × List RV := ([rv (false, [.int .i64]) r], [])
def Anf : As := Aq A7t (fun d => (Amn d.1).val) A7u
theorem Uq : Fn Tryz.prog 466 .plain Anf := by
 refine ⟨?_, Tryz.f466, Tryz.func466, by kernel_rfl, by kernel_rfl⟩
 intro rs res vals w G hv hG hr
 obtain ⟨d, x, rfl, h1, h2⟩ := A96 hv
 obtain ⟨⟨n, _⟩, _⟩ := d
 cases h1
 subst h2
 match vals, hr with
 | [v], hr =>
  have e : v = .int .i64 n := hr.1.1.1
  subst e
  refine (?_ : Calls Tryz.prog 466 #[.int .i64 n] w (Ret w (.int .i64 (Vz n)))).mono fun e w' h => Bjg (Bjh n) h
  unfold Vz
  by_cases h : 0 ≤ n ∧ n ≤ 63
  ·rw [if_pos h]; exact Bjd n w h.1 h.2
  ·rw [if_neg h]; exact Bjf n w h

def A5y : As := Aq [(false, [.int .i64]), (false, [.int .i64])] (fun d => (A5e d.1 d.2.1).val) fun r => ([rv (false, [.int .i64]) r], [])
theorem Ak3 : Fn Tryz.prog 467 .plain A5y := mkF [] trivial Tryz.func467 (by kernel_rfl) (by kernel_rfl) (by kernel_rfl) 0 fun d => by kernel_rfl
def Aba : List (Bool × List Sh) := [(false, [.sl 3 [.int .i64]]), (false, [.sl 5 [.int .u8]])]
def Aqf (r : ((List YI) × Unit)) : List RV × List RV := ([rv (false, [.sl 3 [.int .i64]]) r], [])
def Fb : Fns := [(429, .plain, S5), (464, .plain, Aqd), (465, .plain, A3t), (466, .plain, Anf), (467, .plain, A5y)]
def Aqg : As := Aq Aba (fun d => (Ng d.1 d.2.1).val) Aqf
def Acn : Sk := ⟨[(0, .v false [(.sl 3 [.int .i64], .ro)]), (5, .v false [(.sl 3 [.int .i64], (.own 17000000))]), (133, .v false [(.sl 3 [.int .i64], (.own 17000001))]), (134, .v false [(.int .i64, .nil)]), (135, .v false [(.int .i64, .nil)])], [], [17000000, 17000001]⟩
def Aco : List (Ex × Sk) := [((.exit 2), ⟨[(5, .v false [(.sl 3 [.int .i64], (.own 17000000))])], [], [17000000]⟩)]
def Ag4 : Sk := ⟨[(0, .v false [(.sl 3 [.int .i64], .ro)]), (5, .v false [(.sl 3 [.int .i64], (.own 8000000))]), (6, .v false [(.sl 3 [.int .i64], (.own 8000001))]), (7, .v false [(.int .i64, .nil)]), (8, .v false [(.int .i64, .nil)]), (9, .v false [(.int .i64, .nil)]), (10, .v false [(.int .i64, .nil)]), (11, .v false [(.int .i64, .nil)]), (12, .v false [(.int .i64, .nil)]), (13, .v false [(.int .i64, .nil)]), (14, .v false [(.int .i64, .nil)]), (15, .v false [(.int .i64, .nil)])], [], [8000000, 8000001]⟩
def Ag5 : List (Ex × Sk) := [((.exit 0), ⟨[(0, .v false [(.sl 3 [.int .i64], .ro)]), (5, .v false [(.sl 3 [.int .i64], (.own 8000000))]), (7, .v false [(.int .i64, .nil)]), (8, .v false [(.int .i64, .nil)]), (9, .v false [(.int .i64, .nil)]), (10, .v false [(.int .i64, .nil)]), (11, .v false [(.int .i64, .nil)]), (12, .v false [(.int .i64, .nil)]), (13, .v false [(.int .i64, .nil)]), (14, .v false [(.int .i64, .nil)])], [], [8000000]⟩)]
def Nx : Bl := fun i st => cond (Nat.beq i 7) (lam Ag4 8000000 Ag5 Fq st) <| cond (Nat.beq i 16) (lam Acn 17000000 Aco E6 st) <| .fail
theorem A0i : ∀ d, bod ⟨Az tys, Ax Fb, Ap Fb, 3, 4⟩ 0 Tryz.f463.ntmps Nx (Ac Tryz.f463 0) Ag4 8000000 Ag5 d = Fq d := fun d => by kernel_rfl
theorem A0j (cx : Cx) (hp : cx.pin.length ≤ 0) : Bf Tryz.prog cx Tryz.f463.ntmps Nx (Ac Tryz.f463 0) := Bc (Al A2 Au (show A0 Tryz.prog Fb from ⟨I0, W2, Up, Uq, Ak3, trivial⟩)) hp (Aw (by kernel_rfl : Am (Ac Tryz.f463 0) = []) trivial) (by kernel_rfl) A0i
theorem Awt : ∀ d, bod ⟨Az tys, Ax Fb, Ap Fb, 3, 4⟩ 0 Tryz.f463.ntmps Nx (Ac Tryz.f463 1) Acn 17000000 Aco d = E6 d := fun d => by kernel_rfl
theorem Awu (cx : Cx) (hp : cx.pin.length ≤ 0) : Bf Tryz.prog cx Tryz.f463.ntmps Nx (Ac Tryz.f463 1) := Bc (Al A2 Au (show A0 Tryz.prog Fb from ⟨I0, W2, Up, Uq, Ak3, trivial⟩)) hp (Aw (by kernel_rfl : Am (Ac Tryz.f463 1) = []) trivial) (by kernel_rfl) Awt
theorem A97 : ∀ d, Bn ⟨Az tys, Ax Fb, Ap Fb, 3, 4⟩ 0 Nx Tryz.f463 .plain (mkA Aba d) = (Ng d.1 d.2.1).run fun r => some (Aqf r) := fun d => by kernel_rfl
theorem Ang : Fn Tryz.prog 463 .plain Aqg := Br (Al A2 Au (show A0 Tryz.prog Fb from ⟨I0, W2, Up, Uq, Ak3, trivial⟩)) Tryz.func463 (by kernel_rfl) (by kernel_rfl) (fun cx b hp hb => Aw (by kernel_rfl : Am (Tryz.f463.body.getD .skip) = [Ac Tryz.f463 0, Ac Tryz.f463 1]) ⟨A0j cx hp, Awu cx hp, trivial⟩ b hb) (R := ((List YI) × Unit)) (T := fun (d : Bw Aba) => Ng d.1 d.2.1) A97
def S7 : List (Bool × List Sh) := [(false, [.sl 3 [.int .i64]]), (false, [.sl 5 [.int .u8]])]
def Acp (r : ((List YI) × Unit) × (YBs)) : List RV × List RV := ([rv (false, [.sl 3 [.int .i64]]) r.1, rv (false, [.sl 5 [.int .u8]]) r.2], [])
def Gm : Fns := [(463, .plain, Aqg)]
def S8 : As := Aq S7 (fun d => (Ja d.1 d.2.1).val) Acp
def Xm : Sk := ⟨[(0, .v false [(.sl 3 [.int .i64], .rd)]), (1, .v false [(.sl 5 [.int .u8], .ro)])], [], []⟩
def Xn : List (Ex × Sk) := [((.exit 0), ⟨[(0, .v false [(.sl 3 [.int .i64], .rd)]), (1, .v false [(.sl 5 [.int .u8], .ro)])], [], []⟩)]
def S9 : Bl := fun i st => cond (Nat.beq i 1) (lam Xm 2000000 Xn Dy st) <| .fail
theorem Aqh : ∀ d, bod ⟨Az tys, Ax Gm, Ap Gm, 3, 4⟩ 0 Tryz.f459.ntmps S9 (Ac Tryz.f459 0) Xm 2000000 Xn d = Dy d := fun d => by kernel_rfl
theorem Aqi (cx : Cx) (hp : cx.pin.length ≤ 0) : Bf Tryz.prog cx Tryz.f459.ntmps S9 (Ac Tryz.f459 0) := Bc (Al A2 Au (show A0 Tryz.prog Gm from ⟨Ang, trivial⟩)) hp (Aw (by kernel_rfl : Am (Ac Tryz.f459 0) = []) trivial) (by kernel_rfl) Aqh
theorem A0k : ∀ d, Bn ⟨Az tys, Ax Gm, Ap Gm, 3, 4⟩ 0 S9 Tryz.f459 .view (mkA S7 d) = (Ja d.1 d.2.1).run fun r => some (Acp r) := fun d => by kernel_rfl
theorem Abb : Fn Tryz.prog 459 .view S8 := Br (Al A2 Au (show A0 Tryz.prog Gm from ⟨Ang, trivial⟩)) Tryz.func459 (by kernel_rfl) (by kernel_rfl) (fun cx b hp hb => Aw (by kernel_rfl : Am (Tryz.f459.body.getD .skip) = [Ac Tryz.f459 0]) ⟨Aqi cx hp, trivial⟩ b hb) (R := ((List YI) × Unit) × (YBs)) (T := fun (d : Bw S7) => Ja d.1 d.2.1) A0k
def Aum : As := Aq [(true, h_4), (false, [.sl 5 [.int .u8]])] (fun d => (Aeg d.1 d.2.1).val) fun r => ([rv (true, h_4) r], [])
theorem A98 : Fn Tryz.prog 451 .plain Aum := mkF [(458, .plain, Ak2), (168, .plain, Di), (294, .plain, Jf), (459, .view, S8)] ⟨Aul, Cp, Hf, Abb, trivial⟩ Tryz.func451 (by kernel_rfl) (by kernel_rfl) (by kernel_rfl) 0 fun d => by kernel_rfl
def A3u : List (Bool × List Sh) := [(false, [.int .i64])]
def Bfi (r : (YBs)) : List RV × List RV := ([rv (false, [.sl 5 [.int .u8]]) r], [])
def Zi : Fns := [(83, .plain, Cd), (295, .plain, Un)]
def Bfj : As := Aq A3u (fun d => (Agf d.1).val) Bfi
def A5z : Sk := ⟨[(0, .v false [(.int .i64, .nil)]), (3, .v false [(.sl 5 [.int .u8], (.own 5000000))])], [], [5000000]⟩
def A50 : List (Ex × Sk) := [((.exit 0), ⟨[(0, .v false [(.int .i64, .nil)]), (3, .v false [(.sl 5 [.int .u8], (.own 5000000))])], [], [5000000]⟩)]
def A3v : Bl := fun i st => cond (Nat.beq i 4) (lam A5z 5000000 A50 K5 st) <| .fail
theorem Bg9 : ∀ d, bod ⟨Az tys, Ax Zi, Ap Zi, 3, 4⟩ 0 Tryz.f460.ntmps A3v (Ac Tryz.f460 0) A5z 5000000 A50 d = K5 d := fun d => by kernel_rfl
theorem Bha (cx : Cx) (hp : cx.pin.length ≤ 0) : Bf Tryz.prog cx Tryz.f460.ntmps A3v (Ac Tryz.f460 0) := Bc (Al A2 Au (show A0 Tryz.prog Zi from ⟨Bu, Nv, trivial⟩)) hp (Aw (by kernel_rfl : Am (Ac Tryz.f460 0) = []) trivial) (by kernel_rfl) Bg9
theorem Bnq : ∀ d, Bn ⟨Az tys, Ax Zi, Ap Zi, 3, 4⟩ 0 A3v Tryz.f460 .plain (mkA A3u d) = (Agf d.1).run fun r => some (Bfi r) := fun d => by kernel_rfl
theorem Bls : Fn Tryz.prog 460 .plain Bfj := Br (Al A2 Au (show A0 Tryz.prog Zi from ⟨Bu, Nv, trivial⟩)) Tryz.func460 (by kernel_rfl) (by kernel_rfl) (fun cx b hp hb => Aw (by kernel_rfl : Am (Tryz.f460.body.getD .skip) = [Ac Tryz.f460 0]) ⟨Bha cx hp, trivial⟩ b hb) (R := (YBs)) (T := fun (d : Bw A3u) => Agf d.1) Bnq
def W3 : List (Bool × List Sh) := [(false, [.sl 3 [.int .i64]])]
def Anh (r : (YBs)) : List RV × List RV := ([rv (false, [.sl 5 [.int .u8]]) r], [])
def I1 : Fns := [(295, .plain, Un)]
def Ani : As := Aq W3 (fun d => (Lv d.1).val) Anh
def Acq : Sk := ⟨[(3, .v false [(.sl 5 [.int .u8], (.own 4000000))]), (7, .v false [(.sl 3 [.int .i64], .ro)]), (8, .v false [(.int .i64, .nil)]), (9, .v false [(.int .i64, .nil)])], [], [4000000]⟩
def Acr : List (Ex × Sk) := [((.exit 0), ⟨[(3, .v false [(.sl 5 [.int .u8], (.own 4000000))])], [], [4000000]⟩)]
def W4 : Bl := fun i st => cond (Nat.beq i 3) (lam Acq 4000000 Acr E7 st) <| .fail
theorem Awv : ∀ d, bod ⟨Az tys, Ax I1, Ap I1, 3, 4⟩ 0 Tryz.f461.ntmps W4 (Ac Tryz.f461 0) Acq 4000000 Acr d = E7 d := fun d => by kernel_rfl
theorem Aww (cx : Cx) (hp : cx.pin.length ≤ 0) : Bf Tryz.prog cx Tryz.f461.ntmps W4 (Ac Tryz.f461 0) := Bc (Al A2 Au (show A0 Tryz.prog I1 from ⟨Nv, trivial⟩)) hp (Aw (by kernel_rfl : Am (Ac Tryz.f461 0) = []) trivial) (by kernel_rfl) Awv
theorem A7v : ∀ d, Bn ⟨Az tys, Ax I1, Ap I1, 3, 4⟩ 0 W4 Tryz.f461 .plain (mkA W3 d) = (Lv d.1).run fun r => some (Anh r) := fun d => by kernel_rfl
theorem A3w : Fn Tryz.prog 461 .plain Ani := Br (Al A2 Au (show A0 Tryz.prog I1 from ⟨Nv, trivial⟩)) Tryz.func461 (by kernel_rfl) (by kernel_rfl) (fun cx b hp hb => Aw (by kernel_rfl : Am (Tryz.f461.body.getD .skip) = [Ac Tryz.f461 0]) ⟨Aww cx hp, trivial⟩ b hb) (R := (YBs)) (T := fun (d : Bw W3) => Lv d.1) A7v
def Aun : As := Aq [(true, h_4)] (fun d => (Aei d.1).val) fun r => ([rv (false, [.sl 5 [.int .u8]]) r], [])
theorem A99 : Fn Tryz.prog 450 .plain Aun := mkF [(458, .plain, Ak2), (460, .plain, Bfj), (294, .plain, Jf), (459, .view, S8), (461, .plain, Ani)] ⟨Aul, Bls, Hf, Abb, A3w, trivial⟩ Tryz.func450 (by kernel_rfl) (by kernel_rfl) (by kernel_rfl) 0 fun d => by kernel_rfl
def A3x : As := Aq [(false, [.sl 5 [.int .u8]])] (fun d => (A2w d.1).val) fun r => ([rv (false, [.sl 5 [.int .u8]]) r], [])
theorem Awx : Fn Tryz.prog 442 .plain A3x := mkF [(452, .plain, Auk), (451, .plain, Aum), (450, .plain, Aun)] ⟨A91, A98, A99, trivial⟩ Tryz.func442 (by kernel_rfl) (by kernel_rfl) (by kernel_rfl) 0 fun d => by kernel_rfl
def Abc : List (Bool × List Sh) := [(false, [.sl 5 [.int .u8]])]
def Aqj (r : (YBs)) : List RV × List RV := ([rv (false, [.sl 5 [.int .u8]]) r], [])
def Ko : Fns := [(168, .plain, Di), (442, .plain, A3x)]
def Aqk : As := Aq Abc (fun d => (Ni d.1).val) Aqj
def Ag6 : Sk := ⟨[(3, .v false [(.sl 5 [.int .u8], (.own 7000000))])], [], [7000000]⟩
def Ag7 : List (Ex × Sk) := [((.exit 0), ⟨[(3, .v false [(.sl 5 [.int .u8], (.own 7000000))])], [], [7000000]⟩)]
def Abd : Bl := fun i st => cond (Nat.beq i 6) (lam Ag6 7000000 Ag7 Ea st) <| .fail
theorem A0l : ∀ d, bod ⟨Az tys, Ax Ko, Ap Ko, 3, 4⟩ 0 Tryz.f441.ntmps Abd (Ac Tryz.f441 0) Ag6 7000000 Ag7 d = Ea d := fun d => by kernel_rfl
theorem A0m (cx : Cx) (hp : cx.pin.length ≤ 0) : Bf Tryz.prog cx Tryz.f441.ntmps Abd (Ac Tryz.f441 0) := Bc (Al A2 Au (show A0 Tryz.prog Ko from ⟨Cp, Awx, trivial⟩)) hp (Aw (by kernel_rfl : Am (Ac Tryz.f441 0) = []) trivial) (by kernel_rfl) A0l
theorem Baa : ∀ d, Bn ⟨Az tys, Ax Ko, Ap Ko, 3, 4⟩ 0 Abd Tryz.f441 .plain (mkA Abc d) = (Ni d.1).run fun r => some (Aqj r) := fun d => by kernel_rfl
theorem A7w : Fn Tryz.prog 441 .plain Aqk := Br (Al A2 Au (show A0 Tryz.prog Ko from ⟨Cp, Awx, trivial⟩)) Tryz.func441 (by kernel_rfl) (by kernel_rfl) (fun cx b hp hb => Aw (by kernel_rfl : Am (Tryz.f441.body.getD .skip) = [Ac Tryz.f441 0]) ⟨A0m cx hp, trivial⟩ b hb) (R := (YBs)) (T := fun (d : Bw Abc) => Ni d.1) Baa
def Ak4 : List (Bool × List Sh) := [(false, [.sl 5 [.int .u8]]), (false, [.int .u8])]
def A0n (r : (YBs)) : List RV × List RV := ([rv (false, [.sl 5 [.int .u8]]) r], [])
def Pi : Fns := []
def A0o : As := Aq Ak4 (fun d => (Si d.1 d.2.1).val) A0n
def Aql : Sk := ⟨[(1, .v false [(.int .u8, .nil)]), (5, .v false [(.sl 5 [.int .u8], (.own 4000000))]), (9, .v false [(.sl 5 [.int .u8], .ro)]), (10, .v false [(.int .i64, .nil)]), (11, .v false [(.int .i64, .nil)])], [], [4000000]⟩
def Aqm : List (Ex × Sk) := [((.exit 0), ⟨[(5, .v false [(.sl 5 [.int .u8], (.own 4000000))])], [], [4000000]⟩)]
def Ak5 : Bl := fun i st => cond (Nat.beq i 3) (lam Aql 4000000 Aqm H4 st) <| .fail
theorem A7x : ∀ d, bod ⟨Az tys, Ax Pi, Ap Pi, 3, 4⟩ 0 Tryz.f443.ntmps Ak5 (Ac Tryz.f443 0) Aql 4000000 Aqm d = H4 d := fun d => by kernel_rfl
theorem A7y (cx : Cx) (hp : cx.pin.length ≤ 0) : Bf Tryz.prog cx Tryz.f443.ntmps Ak5 (Ac Tryz.f443 0) := Bc (Al A2 Au (show A0 Tryz.prog Pi from trivial)) hp (Aw (by kernel_rfl : Am (Ac Tryz.f443 0) = []) trivial) (by kernel_rfl) A7x
theorem Bhb : ∀ d, Bn ⟨Az tys, Ax Pi, Ap Pi, 3, 4⟩ 0 Ak5 Tryz.f443 .plain (mkA Ak4 d) = (Si d.1 d.2.1).run fun r => some (A0n r) := fun d => by kernel_rfl
theorem Bd5 : Fn Tryz.prog 443 .plain A0o := Br (Al A2 Au (show A0 Tryz.prog Pi from trivial)) Tryz.func443 (by kernel_rfl) (by kernel_rfl) (fun cx b hp hb => Aw (by kernel_rfl : Am (Tryz.f443.body.getD .skip) = [Ac Tryz.f443 0]) ⟨A7y cx hp, trivial⟩ b hb) (R := (YBs)) (T := fun (d : Bw Ak4) => Si d.1 d.2.1) Bhb
def Ak6 : As := Aq [(false, [.sl 5 [.int .u8]]), (false, [.sl 5 [.int .u8]])] (fun d => (Avu d.1 d.2.1).val) fun r => ([rv (false, [.sl 5 [.int .u8]]) r], [])
theorem Acs : Fn Tryz.prog 419 .plain Ak6 := mkF [(441, .plain, Aqk), (443, .plain, A0o), (294, .plain, Jf), (442, .plain, A3x)] ⟨A7w, Bd5, Hf, Awx, trivial⟩ Tryz.func419 (by kernel_rfl) (by kernel_rfl) (by kernel_rfl) 0 fun d => by kernel_rfl
def A3y : As := Aq [(false, [.sl 5 [.int .u8]]), (false, [.sl 5 [.int .u8]])] (fun d => (A2x d.1 d.2.1).val) fun r => ([rv (false, [.sl 5 [.int .u8]]) r], [])
theorem Bab : Fn Tryz.prog 372 .plain A3y := mkF [(419, .plain, Ak6), (168, .plain, Di)] ⟨Acs, Cp, trivial⟩ Tryz.func372 (by kernel_rfl) (by kernel_rfl) (by kernel_rfl) 0 fun d => by kernel_rfl
def Auo : As := Aq [(false, [.sl 5 [.int .u8]]), (false, [.sl 5 [.int .u8]])] (fun d => (Aek d.1 d.2.1).val) fun r => ([rv (false, [.bool]) r], [])
theorem Bac : Fn Tryz.prog 375 .plain Auo := mkF [(334, .plain, Awn)] ⟨A5w, trivial⟩ Tryz.func375 (by kernel_rfl) (by kernel_rfl) (by kernel_rfl) 0 fun d => by kernel_rfl
def Aup : As := Aq [(false, [.sl 5 [.int .u8]]), (false, [.sl 5 [.int .u8]]), (false, [.int .i64])] (fun d => (Aem d.1 d.2.1 d.2.2.1).val) fun r => ([rv (false, [.sl 5 [.int .u8]]) r], [])
theorem Aqn : Fn Tryz.prog 457 .plain Aup := mkF [(83, .plain, Cd), (294, .plain, Jf), (295, .plain, Un), (419, .plain, Ak6)] ⟨Bu, Hf, Nv, Acs, trivial⟩ Tryz.func457 (by kernel_rfl) (by kernel_rfl) (by kernel_rfl) 0 fun d => by kernel_rfl
def Ak7 : List (Bool × List Sh) := [(false, [.sl 5 [.int .u8]]), (false, [.sl 5 [.int .u8]]), (false, [.int .i64])]
def A0p (r : (YBs)) : List RV × List RV := ([rv (false, [.sl 5 [.int .u8]]) r], [])
def Pj : Fns := [(83, .plain, Cd), (457, .plain, Aup), (168, .plain, Di)]
def A0q : As := Aq Ak7 (fun d => (Sj d.1 d.2.1 d.2.2.1).val) A0p
def Aqo : Sk := ⟨[(0, .v false [(.sl 5 [.int .u8], .ro)]), (1, .v false [(.sl 5 [.int .u8], .ro)]), (2, .v false [(.int .i64, .nil)]), (7, .v false [(.sl 5 [.int .u8], (.own 6000000))]), (8, .v false [(.int .i64, .nil)])], [], [6000000]⟩
def Aqp : List (Ex × Sk) := [((.exit 0), ⟨[(2, .v false [(.int .i64, .nil)]), (7, .v false [(.sl 5 [.int .u8], (.own 6000000))])], [], [6000000]⟩)]
def Ak8 : Bl := fun i st => cond (Nat.beq i 5) (lam Aqo 6000000 Aqp H5 st) <| .fail
theorem A7z : ∀ d, bod ⟨Az tys, Ax Pj, Ap Pj, 3, 4⟩ 0 Tryz.f449.ntmps Ak8 (Ac Tryz.f449 0) Aqo 6000000 Aqp d = H5 d := fun d => by kernel_rfl
theorem A70 (cx : Cx) (hp : cx.pin.length ≤ 0) : Bf Tryz.prog cx Tryz.f449.ntmps Ak8 (Ac Tryz.f449 0) := Bc (Al A2 Au (show A0 Tryz.prog Pj from ⟨Bu, Aqn, Cp, trivial⟩)) hp (Aw (by kernel_rfl : Am (Ac Tryz.f449 0) = []) trivial) (by kernel_rfl) A7z
theorem Bhc : ∀ d, Bn ⟨Az tys, Ax Pj, Ap Pj, 3, 4⟩ 0 Ak8 Tryz.f449 .plain (mkA Ak7 d) = (Sj d.1 d.2.1 d.2.2.1).run fun r => some (A0p r) := fun d => by kernel_rfl
theorem Auq : Fn Tryz.prog 449 .plain A0q := Br (Al A2 Au (show A0 Tryz.prog Pj from ⟨Bu, Aqn, Cp, trivial⟩)) Tryz.func449 (by kernel_rfl) (by kernel_rfl) (fun cx b hp hb => Aw (by kernel_rfl : Am (Tryz.f449.body.getD .skip) = [Ac Tryz.f449 0]) ⟨A70 cx hp, trivial⟩ b hb) (R := (YBs)) (T := fun (d : Bw Ak7) => Sj d.1 d.2.1 d.2.2.1) Bhc
def A3z : List (Bool × List Sh) := [(false, [.sl 5 [.int .u8]]), (false, [.sl 5 [.int .u8]]), (false, [.sl 5 [.int .u8]])]
def Bfk (r : (YBs)) : List RV × List RV := ([rv (false, [.sl 5 [.int .u8]]) r], [])
def Zj : Fns := [(449, .plain, A0q)]
def A30 : As := Aq A3z (fun d => (Agh d.1 d.2.1 d.2.2.1).val) Bfk
def A51 : Sk := ⟨[(2, .v false [(.sl 5 [.int .u8], .ro)]), (7, .v false [(.sl 5 [.int .u8], (.own 6000000))]), (28, .v false [(.sl 5 [.int .u8], (.own 6000001))]), (29, .v false [(.int .i64, .nil)]), (30, .v false [(.int .i64, .nil)])], [], [6000000, 6000001]⟩
def A52 : List (Ex × Sk) := [((.exit 0), ⟨[(7, .v false [(.sl 5 [.int .u8], (.own 6000000))])], [], [6000000]⟩)]
def A31 : Bl := fun i st => cond (Nat.beq i 5) (lam A51 6000000 A52 Nj st) <| .fail
theorem Bhd : ∀ d, bod ⟨Az tys, Ax Zj, Ap Zj, 3, 4⟩ 0 Tryz.f434.ntmps A31 (Ac Tryz.f434 0) A51 6000000 A52 d = Nj d := fun d => by kernel_rfl
theorem Bhe (cx : Cx) (hp : cx.pin.length ≤ 0) : Bf Tryz.prog cx Tryz.f434.ntmps A31 (Ac Tryz.f434 0) := Bc (Al A2 Au (show A0 Tryz.prog Zj from ⟨Auq, trivial⟩)) hp (Aw (by kernel_rfl : Am (Ac Tryz.f434 0) = []) trivial) (by kernel_rfl) Bhd
theorem Bnr : ∀ d, Bn ⟨Az tys, Ax Zj, Ap Zj, 3, 4⟩ 0 A31 Tryz.f434 .plain (mkA A3z d) = (Agh d.1 d.2.1 d.2.2.1).run fun r => some (Bfk r) := fun d => by kernel_rfl
theorem Bad : Fn Tryz.prog 434 .plain A30 := Br (Al A2 Au (show A0 Tryz.prog Zj from ⟨Auq, trivial⟩)) Tryz.func434 (by kernel_rfl) (by kernel_rfl) (fun cx b hp hb => Aw (by kernel_rfl : Am (Tryz.f434.body.getD .skip) = [Ac Tryz.f434 0]) ⟨Bhe cx hp, trivial⟩ b hb) (R := (YBs)) (T := fun (d : Bw A3z) => Agh d.1 d.2.1 d.2.2.1) Bnr
def A0r : As := Aq [(false, [.sl 5 [.int .u8]]), (false, [.int .i64]), (true, D5)] (fun d => (Ajr d.1 d.2.1 d.2.2.1).val) fun r => ([rv (false, [.sl 5 [.int .u8]]) r.1, rv (false, [.bool]) r.2], [])
theorem Bd6 : Fn Tryz.prog 403 .plain A0r := mkF [(204, .plain, Kn), (372, .plain, A3y), (375, .plain, Auo), (337, .plain, X7), (434, .plain, A30)] ⟨L5, Bab, Bac, Aff, Bad, trivial⟩ Tryz.func403 (by kernel_rfl) (by kernel_rfl) (by kernel_rfl) 0 fun d => by kernel_rfl
def A0s : As := Aq [(true, h_6), (false, [.int .i64]), (true, D5)] (fun d => (Ajt d.1 d.2.1 d.2.2.1).val) fun r => ([rv (true, h_6) r.1, rv (false, [.sl 5 [.int .u8]]) r.2.1, rv (false, [.int .i64]) r.2.2], [])
theorem Bd7 : Fn Tryz.prog 336 .plain A0s := mkF [(389, .plain, X5), (314, .plain, Aa6), (204, .plain, Kn), (402, .plain, Az9), (403, .plain, A0r)] ⟨Afc, Acm, L5, Bd1, Bd6, trivial⟩ Tryz.func336 (by kernel_rfl) (by kernel_rfl) (by kernel_rfl) 0 fun d => by kernel_rfl
def Aqq : As := Aq [(true, Dd), (false, [.int .i64]), (true, D5)] (fun d => (Aah d.1 d.2.1 d.2.2.1).val) fun r => ([rv (true, Dd) r.1, rv (false, [.sl 5 [.int .u8]]) r.2.1, rv (false, [.int .i64]) r.2.2], [])
theorem A71 : Fn Tryz.prog 201 .plain Aqq := mkF [(309, .plain, H9), (179, .plain, Je), (83, .plain, Cd), (88, .plain, S6), (118, .plain, Vn), (334, .plain, Awn), (335, .plain, Ap6), (336, .plain, A0s)] ⟨Ix, J0, Bu, Vm, Aa8, A5w, Az3, Bd7, trivial⟩ Tryz.func201 (by kernel_rfl) (by kernel_rfl) (by kernel_rfl) 0 fun d => by kernel_rfl
def A0t : As := Aq [(true, Dd), (false, [.int .i64])] (fun d => (Aju d.1 d.2.1).val) fun r => ([rv (false, [.sl 5 [.int .u8]]) r.1, rv (false, [.bool]) r.2], [])
theorem Bd8 : Fn Tryz.prog 202 .plain A0t := mkF [(179, .plain, Je), (168, .plain, Di)] ⟨J0, Cp, trivial⟩ Tryz.func202 (by kernel_rfl) (by kernel_rfl) (by kernel_rfl) 0 fun d => by kernel_rfl
def Bae : As := Aq [(false, [.sl 5 [.int .u8]]), (false, [.sl 5 [.int .u8]]), (false, [.sl 5 [.int .u8]])] (fun d => (Avv d.1 d.2.1 d.2.2.1).val) fun r => ([rv (true, h_9) r], [])
theorem Bji : Fn Tryz.prog 203 .plain Bae := mkF [(168, .plain, Di)] ⟨Cp, trivial⟩ Tryz.func203 (by kernel_rfl) (by kernel_rfl) (by kernel_rfl) 0 fun d => by kernel_rfl
def Ak9 : List (Bool × List Sh) := [(true, h_7), (true, [.int .i64, .int .i64])]
def A0u (r : (YI)) : List RV × List RV := ([rv (false, [.int .i64]) r], [])
def Pk : Fns := []
def Ala : As := Aq Ak9 (fun d => (So d.1 d.2.1).val) A0u
def Aqr : Sk := ⟨[(3, .box 3 0), (8, .v false [(.sl 311 h_5, .ro)]), (9, .v false [(.int .i64, .nil)]), (10, .v false [(.int .i64, .nil)])], [(3, [(.int .i64, .nil), (.int .i64, .nil)])], []⟩
def Aqs : List (Ex × Sk) := [(.ret, ⟨[(4, .v false [(.int .i64, .nil)])], [], []⟩), ((.exit 0), ⟨[], [], []⟩)]
def Alb : Bl := fun i st => cond (Nat.beq i 2) (lam Aqr 3000000 Aqs Ka st) <| .fail
theorem A72 : ∀ d, bod ⟨Az tys, Ax Pk, Ap Pk, 3, 4⟩ 0 Tryz.f338.ntmps Alb (Ac Tryz.f338 0) Aqr 3000000 Aqs d = Ka d := fun d => by kernel_rfl
theorem A73 (cx : Cx) (hp : cx.pin.length ≤ 0) : Bf Tryz.prog cx Tryz.f338.ntmps Alb (Ac Tryz.f338 0) := Bc (Al A2 Au (show A0 Tryz.prog Pk from trivial)) hp (Aw (by kernel_rfl : Am (Ac Tryz.f338 0) = []) trivial) (by kernel_rfl) A72
theorem Bhf : ∀ d, Bn ⟨Az tys, Ax Pk, Ap Pk, 3, 4⟩ 0 Alb Tryz.f338 .plain (mkA Ak9 d) = (So d.1 d.2.1).run fun r => some (A0u r) := fun d => by kernel_rfl
theorem Aur : Fn Tryz.prog 338 .plain Ala := Br (Al A2 Au (show A0 Tryz.prog Pk from trivial)) Tryz.func338 (by kernel_rfl) (by kernel_rfl) (fun cx b hp hb => Aw (by kernel_rfl : Am (Tryz.f338.body.getD .skip) = [Ac Tryz.f338 0]) ⟨A73 cx hp, trivial⟩ b hb) (R := (YI)) (T := fun (d : Bw Ak9) => So d.1 d.2.1) Bhf
def A0v : As := Aq [(true, h_7), (false, [.int .i64]), (true, [.int .i64, .int .i64]), (false, [.sl 5 [.int .u8]])] (fun d => (Ajv d.1 d.2.1 d.2.2.1 d.2.2.2.1).val) fun r => ([rv (true, h_7) r.1, rv (false, [.bool]) r.2], [])
theorem Bd9 : Fn Tryz.prog 205 .plain A0v := mkF [(333, .plain, L4), (338, .plain, Ala), (220, .plain, Vl), (83, .plain, Cd), (119, .plain, Iz)] ⟨Kj, Aur, Aa7, Bu, Kk, trivial⟩ Tryz.func205 (by kernel_rfl) (by kernel_rfl) (by kernel_rfl) 0 fun d => by kernel_rfl
def W5 : As := Aq [(false, [.int .i64])] (fun d => (Wn d.1).val) fun r => ([rv (false, [.sl 5 [.int .u8]]) r], [])
theorem Ag8 : Fn Tryz.prog 350 .plain W5 := mkF [(83, .plain, Cd), (295, .plain, Un)] ⟨Bu, Nv, trivial⟩ Tryz.func350 (by kernel_rfl) (by kernel_rfl) (by kernel_rfl) 0 fun d => by kernel_rfl
def Alc : List (Bool × List Sh) := [(false, [.sl 5 [.int .u8]]), (false, [.sl 5 [.int .u8]]), (false, [.int .i64])]
def A0w (r : (YBs) × (Bool × Unit)) : List RV × List RV := ([rv (false, [.sl 5 [.int .u8]]) r.1, rv (false, [.bool]) r.2], [])
def Pm : Fns := [(83, .plain, Cd), (294, .plain, Jf), (419, .plain, Ak6), (168, .plain, Di)]
def A0x : As := Aq Alc (fun d => (Sp d.1 d.2.1 d.2.2.1).val) A0w
def Aqt : Sk := ⟨[(0, .v false [(.sl 5 [.int .u8], .ro)]), (1, .v false [(.sl 5 [.int .u8], .ro)]), (2, .v false [(.int .i64, .nil)]), (8, .v false [(.sl 5 [.int .u8], (.own 7000000))]), (9, .v false [(.sl 5 [.int .u8], (.own 7000001))]), (10, .v false [(.int .i64, .nil)])], [], [7000000, 7000001]⟩
def Aqu : List (Ex × Sk) := [((.exit 0), ⟨[(2, .v false [(.int .i64, .nil)]), (8, .v false [(.sl 5 [.int .u8], (.own 7000000))])], [], [7000000]⟩)]
def Ald : Bl := fun i st => cond (Nat.beq i 6) (lam Aqt 7000000 Aqu H6 st) <| .fail
theorem A74 : ∀ d, bod ⟨Az tys, Ax Pm, Ap Pm, 3, 4⟩ 0 Tryz.f420.ntmps Ald (Ac Tryz.f420 0) Aqt 7000000 Aqu d = H6 d := fun d => by kernel_rfl
theorem A75 (cx : Cx) (hp : cx.pin.length ≤ 0) : Bf Tryz.prog cx Tryz.f420.ntmps Ald (Ac Tryz.f420 0) := Bc (Al A2 Au (show A0 Tryz.prog Pm from ⟨Bu, Hf, Acs, Cp, trivial⟩)) hp (Aw (by kernel_rfl : Am (Ac Tryz.f420 0) = []) trivial) (by kernel_rfl) A74
theorem Bhg : ∀ d, Bn ⟨Az tys, Ax Pm, Ap Pm, 3, 4⟩ 0 Ald Tryz.f420 .plain (mkA Alc d) = (Sp d.1 d.2.1 d.2.2.1).run fun r => some (A0w r) := fun d => by kernel_rfl
theorem Bea : Fn Tryz.prog 420 .plain A0x := Br (Al A2 Au (show A0 Tryz.prog Pm from ⟨Bu, Hf, Acs, Cp, trivial⟩)) Tryz.func420 (by kernel_rfl) (by kernel_rfl) (fun cx b hp hb => Aw (by kernel_rfl : Am (Tryz.f420.body.getD .skip) = [Ac Tryz.f420 0]) ⟨A75 cx hp, trivial⟩ b hb) (R := (YBs) × (Bool × Unit)) (T := fun (d : Bw Alc) => Sp d.1 d.2.1 d.2.2.1) Bhg
def A0y : As := Aq [(false, [.sl 5 [.int .u8]]), (false, [.str])] (fun d => (Ajx d.1 d.2.1).val) fun r => ([rv (false, [.sl 5 [.int .u8]]) r], [])
theorem Beb : Fn Tryz.prog 378 .plain A0y := mkF [(420, .plain, A0x)] ⟨Bea, trivial⟩ Tryz.func378 (by kernel_rfl) (by kernel_rfl) (by kernel_rfl) 0 fun d => by kernel_rfl
def Baf : As := Aq [(true, Dd)] (fun d => (Avx d.1).val) fun r => ([rv (true, Dd) r.1, rv (false, [.bool]) r.2], [])
theorem Bjj : Fn Tryz.prog 404 .plain Baf := mkF [(309, .plain, H9), (179, .plain, Je), (378, .plain, A0y), (335, .plain, Ap6)] ⟨Ix, J0, Beb, Az3, trivial⟩ Tryz.func404 (by kernel_rfl) (by kernel_rfl) (by kernel_rfl) 0 fun d => by kernel_rfl
def Anj : As := Aq [(true, Dd), (false, [.int .i64]), (false, [.sl 5 [.int .u8]])] (fun d => (Wo d.1 d.2.1 d.2.2.1).val) fun r => ([rv (true, Dd) r.1, rv (false, [.int .i64]) r.2], [])
theorem A32 : Fn Tryz.prog 339 .plain Anj := mkF [(309, .plain, H9), (179, .plain, Je), (83, .plain, Cd), (350, .plain, W5), (119, .plain, Iz), (404, .plain, Baf)] ⟨Ix, J0, Bu, Ag8, Kk, Bjj, trivial⟩ Tryz.func339 (by kernel_rfl) (by kernel_rfl) (by kernel_rfl) 0 fun d => by kernel_rfl
def Bag : As := Aq [(false, [.sl 5 [.int .u8]]), (false, [.int .i64]), (false, [.sl 5 [.int .u8]]), (false, [.int .i64]), (false, [.int .i64]), (false, [.int .i64]), (false, [.sl 5 [.int .u8]])] (fun d => (Avz d.1 d.2.1 d.2.2.1 d.2.2.2.1 d.2.2.2.2.1 d.2.2.2.2.2.1 d.2.2.2.2.2.2.1).val) fun r => ([rv (true, D5) r.1, rv (false, [.bool]) r.2], [])
theorem Bjk : Fn Tryz.prog 405 .plain Bag := mkF [(168, .plain, Di), (313, .plain, S4), (88, .plain, S6), (118, .plain, Vn), (337, .plain, X7), (434, .plain, A30), (204, .plain, Kn), (372, .plain, A3y)] ⟨Cp, Vk, Vm, Aa8, Aff, Bad, L5, Bab, trivial⟩ Tryz.func405 (by kernel_rfl) (by kernel_rfl) (by kernel_rfl) 0 fun d => by kernel_rfl
def A0z : As := Aq [(true, h_6), (false, [.int .i64]), (false, [.sl 5 [.int .u8]]), (false, [.int .i64]), (false, [.sl 5 [.int .u8]])] (fun d => (Ajy d.1 d.2.1 d.2.2.1 d.2.2.2.1 d.2.2.2.2.1).val) fun r => ([rv (true, h_6) r.1, rv (true, D5) r.2.1, rv (false, [.int .i64]) r.2.2], [])
theorem Bec : Fn Tryz.prog 341 .plain A0z := mkF [(389, .plain, X5), (314, .plain, Aa6), (405, .plain, Bag)] ⟨Afc, Acm, Bjk, trivial⟩ Tryz.func341 (by kernel_rfl) (by kernel_rfl) (by kernel_rfl) 0 fun d => by kernel_rfl
def Abe : As := Aq [(true, Dd), (false, [.int .i64]), (false, [.sl 5 [.int .u8]])] (fun d => (Aaj d.1 d.2.1 d.2.2.1).val) fun r => ([rv (true, Dd) r.1, rv (true, D5) r.2.1, rv (false, [.int .i64]) r.2.2], [])
theorem Ank : Fn Tryz.prog 208 .plain Abe := mkF [(309, .plain, H9), (179, .plain, Je), (341, .plain, A0z)] ⟨Ix, J0, Bec, trivial⟩ Tryz.func208 (by kernel_rfl) (by kernel_rfl) (by kernel_rfl) 0 fun d => by kernel_rfl
def Bfl : As := Aq [(true, Dd)] (fun d => (A2y d.1).val) fun r => ([rv (true, Dd) r.1, rv (true, D5) r.2.1, rv (false, [.int .i64]) r.2.2], [])
theorem Blt : Fn Tryz.prog 224 .plain Bfl := mkF [(179, .plain, Je), (309, .plain, H9), (350, .plain, W5), (208, .plain, Abe)] ⟨J0, Ix, Ag8, Ank, trivial⟩ Tryz.func224 (by kernel_rfl) (by kernel_rfl) (by kernel_rfl) 0 fun d => by kernel_rfl
def Bah : As := Aq [(false, [.sl 5 [.int .u8]]), (false, [.sl 5 [.int .u8]])] (fun d => (Av0 d.1 d.2.1).val) fun r => ([rv (true, h_9) r], [])
theorem Bjl : Fn Tryz.prog 261 .plain Bah := mkF [(168, .plain, Di)] ⟨Cp, trivial⟩ Tryz.func261 (by kernel_rfl) (by kernel_rfl) (by kernel_rfl) 0 fun d => by kernel_rfl
def Ale : As := Aq [(true, Dd), (true, D5)] (fun d => (Aj0 d.1 d.2.1).val) fun r => ([rv (true, h_9) r], [])
theorem Aus : Fn Tryz.prog 209 .plain Ale := mkF [(204, .plain, Kn), (261, .plain, Bah)] ⟨L5, Bjl, trivial⟩ Tryz.func209 (by kernel_rfl) (by kernel_rfl) (by kernel_rfl) 0 fun d => by kernel_rfl
def Anl : As := Aq [(true, Kd), (false, [.int .i64]), (false, [.sl 5 [.int .u8]])] (fun d => (Wp d.1 d.2.1 d.2.2.1).val) fun r => ([rv (true, Kd) r.1, rv (false, [.sl 158 Nq]) r.2.1, rv (false, [.sl 93 h_9]) r.2.2], [])
theorem A33 : Fn Tryz.prog 206 (.lend [2]) Anl := mkF [(339, .plain, Anj), (168, .plain, Di), (224, .plain, Bfl), (209, .plain, Ale)] ⟨A32, Cp, Blt, Aus, trivial⟩ Tryz.func206 (by kernel_rfl) (by kernel_rfl) (by kernel_rfl) 1 fun d => by kernel_rfl
def Ny : List (Bool × List Sh) := [(true, h_7), (false, [.int .i64])]
def V2 (r : (A6)) : List RV × List RV := ([rv (true, h_7) r], [])
def Et : Fns := [(333, .plain, L4)]
def V3 : As := Aq Ny (fun d => (F6 d.1 d.2.1).val) V2
def Ta : Sk := ⟨[(1, .v false [(.int .i64, .nil)]), (4, .box 4 0), (5, .box 5 0), (13, .v false [(.sl 311 h_5, (.own 4000000))]), (14, .v false [(.int .i64, .nil)]), (15, .v false [(.int .i64, .nil)])], [(4, [(.int .i64, .nil), (.int .i64, .nil), (.sl 311 h_5, (.own 4000001))]), (5, [(.int .i64, .nil), (.int .i64, .nil), (.sl 311 h_5, (.own 4000002))])], [4000000, 4000001, 4000002]⟩
def Tb : List (Ex × Sk) := [((.exit 0), ⟨[(4, .box 4 0), (5, .box 5 0)], [(4, [(.int .i64, .nil), (.int .i64, .nil), (.sl 311 h_5, (.own 4000000))]), (5, [(.int .i64, .nil), (.int .i64, .nil), (.sl 311 h_5, (.own 4000001))])], [4000000, 4000001]⟩)]
def Nz : Bl := fun i st => cond (Nat.beq i 3) (lam Ta 4000000 Tb Ds st) <| .fail
theorem Ag9 : ∀ d, Blu ⟨Az tys, Ax Et, Ap Et, 3, 4⟩ 0 Tryz.f340.ntmps Nz (Ac Tryz.f340 0) Ta 4000000 Tb 13 15 4500000 d = Ds d := fun d => by kernel_rfl
theorem Aha (cx : Cx) (hp : cx.pin.length ≤ 0) : Bf Tryz.prog cx Tryz.f340.ntmps Nz (Ac Tryz.f340 0) := Blv (Al A2 Au (show A0 Tryz.prog Et from ⟨Kj, trivial⟩)) hp (Aw (by kernel_rfl : Am (Ac Tryz.f340 0) = []) trivial) 13 15 4500000 (by kernel_rfl) (by kernel_rfl) Ag9
theorem Aqv : ∀ d, Bn ⟨Az tys, Ax Et, Ap Et, 3, 4⟩ 0 Nz Tryz.f340 .plain (mkA Ny d) = (F6 d.1 d.2.1).run fun r => some (V2 r) := fun d => by kernel_rfl
theorem Aob : Fn Tryz.prog 340 .plain V3 := Br (Al A2 Au (show A0 Tryz.prog Et from ⟨Kj, trivial⟩)) Tryz.func340 (by kernel_rfl) (by kernel_rfl) (fun cx b hp hb => Aw (by kernel_rfl : Am (Tryz.f340.body.getD .skip) = [Ac Tryz.f340 0]) ⟨Aha cx hp, trivial⟩ b hb) (R := (A6)) (T := fun (d : Bw Ny) => F6 d.1 d.2.1) Aqv
def A53 : As := Aq [(true, h_7), (false, [.int .i64]), (true, [.int .i64, .int .i64]), (false, [.sl 5 [.int .u8]])] (fun d => (Aor d.1 d.2.1 d.2.2.1 d.2.2.2.1).val) fun r => ([rv (true, h_7) r.1, rv (false, [.bool]) r.2], [])
theorem Bhh : Fn Tryz.prog 207 .plain A53 := mkF [(220, .plain, Vl), (83, .plain, Cd), (84, .plain, X6), (167, .plain, Jz), (333, .plain, L4), (340, .plain, V3), (338, .plain, Ala), (168, .plain, Di)] ⟨Aa7, Bu, Qk, F8, Kj, Aob, Aur, Cp, trivial⟩ Tryz.func207 (by kernel_rfl) (by kernel_rfl) (by kernel_rfl) 0 fun d => by kernel_rfl
def Aqw : As := Aq [(true, Kd), (false, [.int .i64]), (true, [.int .i64, .int .i64]), (true, D5), (false, [.sl 5 [.int .u8]])] (fun d => (Aak d.1 d.2.1 d.2.2.1 d.2.2.2.1 d.2.2.2.2.1).val) fun r => ([rv (true, Kd) r.1, rv (false, [.sl 158 Nq]) r.2.1, rv (false, [.sl 93 h_9]) r.2.2.1, rv (false, [.bool]) r.2.2.2], [])
theorem A76 : Fn Tryz.prog 48 .plain Aqw := mkF [(200, .plain, Apz), (50, .plain, Azy), (84, .plain, X6), (201, .plain, Aqq), (202, .plain, A0t), (204, .plain, Kn), (203, .plain, Bae), (168, .plain, Di), (205, .plain, A0v), (206, (.lend [2]), Anl), (207, .plain, A53), (208, .plain, Abe), (209, .plain, Ale)] ⟨A7k, Bdu, Qk, A71, Bd8, L5, Bji, Cp, Bd9, A33, Bhh, Ank, Aus, trivial⟩ Tryz.func48 (by kernel_rfl) (by kernel_rfl) (by kernel_rfl) 0 fun d => by kernel_rfl
def Afg : List (Bool × List Sh) := [(false, [.sl 5 [.int .u8]]), (false, [.sl 5 [.int .u8]])]
def Aut (r : (Bool × Unit)) : List RV × List RV := ([rv (false, [.bool]) r], [])
def Mj : Fns := []
def Hg : As := Aq Afg (fun d => (Qa d.1 d.2.1).val) Aut
def Anm : Sk := ⟨[(0, .v false [(.sl 5 [.int .u8], .ro)]), (1, .v false [(.sl 5 [.int .u8], .ro)]), (5, .v false [(.int .i64, .nil)])], [], []⟩
def Ann : List (Ex × Sk) := [(.ret, ⟨[(4, .v false [(.bool, .nil)])], [], []⟩), ((.exit 0), ⟨[], [], []⟩)]
def Afh : Bl := fun i st => cond (Nat.beq i 4) (lam Anm 5000000 Ann It st) <| .fail
theorem A34 : ∀ d, bod ⟨Az tys, Ax Mj, Ap Mj, 3, 4⟩ 0 Tryz.f26.ntmps Afh (Ac Tryz.f26 0) Anm 5000000 Ann d = It d := fun d => by kernel_rfl
theorem A35 (cx : Cx) (hp : cx.pin.length ≤ 0) : Bf Tryz.prog cx Tryz.f26.ntmps Afh (Ac Tryz.f26 0) := Bc (Al A2 Au (show A0 Tryz.prog Mj from trivial)) hp (Aw (by kernel_rfl : Am (Ac Tryz.f26 0) = []) trivial) (by kernel_rfl) A34
theorem Bed : ∀ d, Bn ⟨Az tys, Ax Mj, Ap Mj, 3, 4⟩ 0 Afh Tryz.f26 .plain (mkA Afg d) = (Qa d.1 d.2.1).run fun r => some (Aut r) := fun d => by kernel_rfl
theorem Ia : Fn Tryz.prog 26 .plain Hg := Br (Al A2 Au (show A0 Tryz.prog Mj from trivial)) Tryz.func26 (by kernel_rfl) (by kernel_rfl) (fun cx b hp hb => Aw (by kernel_rfl : Am (Tryz.f26.body.getD .skip) = [Ac Tryz.f26 0]) ⟨A35 cx hp, trivial⟩ b hb) (R := (Bool × Unit)) (T := fun (d : Bw Afg) => Qa d.1 d.2.1) Bed
def Alf : List (Bool × List Sh) := [(false, [.sl 3 [.int .i64]]), (false, [.sl 3 [.int .i64]])]
def A00 (r : (Bool × Unit)) : List RV × List RV := ([rv (false, [.bool]) r], [])
def Pn : Fns := []
def A01 : As := Aq Alf (fun d => (Sr d.1 d.2.1).val) A00
def Aqx : Sk := ⟨[(0, .v false [(.sl 3 [.int .i64], .ro)]), (1, .v false [(.sl 3 [.int .i64], .ro)]), (5, .v false [(.int .i64, .nil)])], [], []⟩
def Aqy : List (Ex × Sk) := [(.ret, ⟨[(4, .v false [(.bool, .nil)])], [], []⟩), ((.exit 0), ⟨[], [], []⟩)]
def Alg : Bl := fun i st => cond (Nat.beq i 4) (lam Aqx 5000000 Aqy Kb st) <| .fail
theorem A77 : ∀ d, bod ⟨Az tys, Ax Pn, Ap Pn, 3, 4⟩ 0 Tryz.f438.ntmps Alg (Ac Tryz.f438 0) Aqx 5000000 Aqy d = Kb d := fun d => by kernel_rfl
theorem A78 (cx : Cx) (hp : cx.pin.length ≤ 0) : Bf Tryz.prog cx Tryz.f438.ntmps Alg (Ac Tryz.f438 0) := Bc (Al A2 Au (show A0 Tryz.prog Pn from trivial)) hp (Aw (by kernel_rfl : Am (Ac Tryz.f438 0) = []) trivial) (by kernel_rfl) A77
theorem Bhi : ∀ d, Bn ⟨Az tys, Ax Pn, Ap Pn, 3, 4⟩ 0 Alg Tryz.f438 .plain (mkA Alf d) = (Sr d.1 d.2.1).run fun r => some (A00 r) := fun d => by kernel_rfl
theorem Bee : Fn Tryz.prog 438 .plain A01 := Br (Al A2 Au (show A0 Tryz.prog Pn from trivial)) Tryz.func438 (by kernel_rfl) (by kernel_rfl) (fun cx b hp hb => Aw (by kernel_rfl : Am (Tryz.f438.body.getD .skip) = [Ac Tryz.f438 0]) ⟨A78 cx hp, trivial⟩ b hb) (R := (Bool × Unit)) (T := fun (d : Bw Alf) => Sr d.1 d.2.1) Bhi
def A54 : As := Aq [(true, [.int .i64, .sl 3 [.int .i64]]), (true, [.int .i64, .sl 3 [.int .i64]])] (fun d => (Aos d.1 d.2.1).val) fun r => ([rv (false, [.bool]) r], [])
theorem Bhj : Fn Tryz.prog 411 .plain A54 := mkF [(438, .plain, A01)] ⟨Bee, trivial⟩ Tryz.func411 (by kernel_rfl) (by kernel_rfl) (by kernel_rfl) 0 fun d => by kernel_rfl
def Bai : As := Aq [(true, h_6), (true, h_6)] (fun d => (Av2 d.1 d.2.1).val) fun r => ([rv (false, [.bool]) r], [])
theorem Bjm : Fn Tryz.prog 356 .plain Bai := mkF [(26, .plain, Hg), (411, .plain, A54)] ⟨Ia, Bhj, trivial⟩ Tryz.func356 (by kernel_rfl) (by kernel_rfl) (by kernel_rfl) 0 fun d => by kernel_rfl
def A02 : As := Aq [(true, Dd), (true, Dd)] (fun d => (Aj3 d.1 d.2.1).val) fun r => ([rv (false, [.bool]) r], [])
theorem Bef : Fn Tryz.prog 234 .plain A02 := mkF [(26, .plain, Hg), (356, .plain, Bai)] ⟨Ia, Bjm, trivial⟩ Tryz.func234 (by kernel_rfl) (by kernel_rfl) (by kernel_rfl) 0 fun d => by kernel_rfl
def Tc : As := Aq [(true, [.int .i64, .int .i64]), (true, [.int .i64, .int .i64])] (fun d => (Aj5 d.1 d.2.1).val) fun r => ([rv (false, [.bool]) r], [])
theorem Vo : Fn Tryz.prog 233 .plain Tc := mkF [] trivial Tryz.func233 (by kernel_rfl) (by kernel_rfl) (by kernel_rfl) 0 fun d => by kernel_rfl
def A03 : As := Aq [(true, h_5), (true, h_5)] (fun d => (Aj6 d.1 d.2.1).val) fun r => ([rv (false, [.bool]) r], [])
theorem Auu : Fn Tryz.prog 416 .plain A03 := mkF [(233, .plain, Tc), (26, .plain, Hg)] ⟨Vo, Ia, trivial⟩ Tryz.func416 (by kernel_rfl) (by kernel_rfl) (by kernel_rfl) 0 fun d => by kernel_rfl
def Afi : List (Bool × List Sh) := [(false, [.sl 311 h_5]), (false, [.sl 311 h_5])]
def Auv (r : (Bool × Unit)) : List RV × List RV := ([rv (false, [.bool]) r], [])
def Mk : Fns := [(416, .plain, A03)]
def Auw : As := Aq Afi (fun d => (Qb d.1 d.2.1).val) Auv
def Ano : Sk := ⟨[(0, .v false [(.sl 311 h_5, .ro)]), (1, .v false [(.sl 311 h_5, .ro)]), (5, .v false [(.int .i64, .nil)])], [], []⟩
def Anp : List (Ex × Sk) := [(.ret, ⟨[(4, .v false [(.bool, .nil)])], [], []⟩), ((.exit 0), ⟨[], [], []⟩)]
def Afj : Bl := fun i st => cond (Nat.beq i 4) (lam Ano 5000000 Anp Iu st) <| .fail
theorem A36 : ∀ d, bod ⟨Az tys, Ax Mk, Ap Mk, 3, 4⟩ 0 Tryz.f361.ntmps Afj (Ac Tryz.f361 0) Ano 5000000 Anp d = Iu d := fun d => by kernel_rfl
theorem A37 (cx : Cx) (hp : cx.pin.length ≤ 0) : Bf Tryz.prog cx Tryz.f361.ntmps Afj (Ac Tryz.f361 0) := Bc (Al A2 Au (show A0 Tryz.prog Mk from ⟨Auu, trivial⟩)) hp (Aw (by kernel_rfl : Am (Ac Tryz.f361 0) = []) trivial) (by kernel_rfl) A36
theorem Beg : ∀ d, Bn ⟨Az tys, Ax Mk, Ap Mk, 3, 4⟩ 0 Afj Tryz.f361 .plain (mkA Afi d) = (Qb d.1 d.2.1).run fun r => some (Auv r) := fun d => by kernel_rfl
theorem Baj : Fn Tryz.prog 361 .plain Auw := Br (Al A2 Au (show A0 Tryz.prog Mk from ⟨Auu, trivial⟩)) Tryz.func361 (by kernel_rfl) (by kernel_rfl) (fun cx b hp hb => Aw (by kernel_rfl : Am (Tryz.f361.body.getD .skip) = [Ac Tryz.f361 0]) ⟨A37 cx hp, trivial⟩ b hb) (R := (Bool × Unit)) (T := fun (d : Bw Afi) => Qb d.1 d.2.1) Beg
def Aux : As := Aq [(true, h_7), (true, h_7)] (fun d => (Aep d.1 d.2.1).val) fun r => ([rv (false, [.bool]) r], [])
theorem Bak : Fn Tryz.prog 241 .plain Aux := mkF [(233, .plain, Tc), (361, .plain, Auw)] ⟨Vo, Baj, trivial⟩ Tryz.func241 (by kernel_rfl) (by kernel_rfl) (by kernel_rfl) 0 fun d => by kernel_rfl
def A04 : As := Aq [(true, Kd), (true, Kd)] (fun d => (Aj8 d.1 d.2.1).val) fun r => ([rv (false, [.bool]) r], [])
theorem Beh : Fn Tryz.prog 73 .plain A04 := mkF [(26, .plain, Hg), (234, .plain, A02), (241, .plain, Aux)] ⟨Ia, Bef, Bak, trivial⟩ Tryz.func73 (by kernel_rfl) (by kernel_rfl) (by kernel_rfl) 0 fun d => by kernel_rfl
def Afk : As := Aq [(true, D5), (true, D5)] (fun d => (Aer d.1 d.2.1).val) fun r => ([rv (false, [.bool]) r], [])
theorem Aqz : Fn Tryz.prog 65 .plain Afk := mkF [(26, .plain, Hg)] ⟨Ia, trivial⟩ Tryz.func65 (by kernel_rfl) (by kernel_rfl) (by kernel_rfl) 0 fun d => by kernel_rfl
def A55 : As := Aq [(true, Nq), (true, Nq)] (fun d => (Aou d.1 d.2.1).val) fun r => ([rv (false, [.bool]) r], [])
theorem A05 : Fn Tryz.prog 149 .plain A55 := mkF [(233, .plain, Tc), (65, .plain, Afk)] ⟨Vo, Aqz, trivial⟩ Tryz.func149 (by kernel_rfl) (by kernel_rfl) (by kernel_rfl) 0 fun d => by kernel_rfl
def Alh : List (Bool × List Sh) := [(false, [.sl 158 Nq]), (false, [.sl 158 Nq])]
def A06 (r : (Bool × Unit)) : List RV × List RV := ([rv (false, [.bool]) r], [])
def Po : Fns := [(149, .plain, A55)]
def A07 : As := Aq Alh (fun d => (Ss d.1 d.2.1).val) A06
def Aq0 : Sk := ⟨[(0, .v false [(.sl 158 Nq, .ro)]), (1, .v false [(.sl 158 Nq, .ro)]), (5, .v false [(.int .i64, .nil)])], [], []⟩
def Aq1 : List (Ex × Sk) := [(.ret, ⟨[(4, .v false [(.bool, .nil)])], [], []⟩), ((.exit 0), ⟨[], [], []⟩)]
def Ali : Bl := fun i st => cond (Nat.beq i 4) (lam Aq0 5000000 Aq1 Kc st) <| .fail
theorem A79 : ∀ d, bod ⟨Az tys, Ax Po, Ap Po, 3, 4⟩ 0 Tryz.f24.ntmps Ali (Ac Tryz.f24 0) Aq0 5000000 Aq1 d = Kc d := fun d => by kernel_rfl
theorem A8a (cx : Cx) (hp : cx.pin.length ≤ 0) : Bf Tryz.prog cx Tryz.f24.ntmps Ali (Ac Tryz.f24 0) := Bc (Al A2 Au (show A0 Tryz.prog Po from ⟨A05, trivial⟩)) hp (Aw (by kernel_rfl : Am (Ac Tryz.f24 0) = []) trivial) (by kernel_rfl) A79
theorem Bhk : ∀ d, Bn ⟨Az tys, Ax Po, Ap Po, 3, 4⟩ 0 Ali Tryz.f24 .plain (mkA Alh d) = (Ss d.1 d.2.1).run fun r => some (A06 r) := fun d => by kernel_rfl
theorem Bei : Fn Tryz.prog 24 .plain A07 := Br (Al A2 Au (show A0 Tryz.prog Po from ⟨A05, trivial⟩)) Tryz.func24 (by kernel_rfl) (by kernel_rfl) (fun cx b hp hb => Aw (by kernel_rfl : Am (Tryz.f24.body.getD .skip) = [Ac Tryz.f24 0]) ⟨A8a cx hp, trivial⟩ b hb) (R := (Bool × Unit)) (T := fun (d : Bw Alh) => Ss d.1 d.2.1) Bhk
def A08 : As := Aq [(true, h_9), (true, h_9)] (fun d => (Aj9 d.1 d.2.1).val) fun r => ([rv (false, [.bool]) r], [])
theorem Auy : Fn Tryz.prog 150 .plain A08 := mkF [(26, .plain, Hg), (233, .plain, Tc)] ⟨Ia, Vo, trivial⟩ Tryz.func150 (by kernel_rfl) (by kernel_rfl) (by kernel_rfl) 0 fun d => by kernel_rfl
def Afl : List (Bool × List Sh) := [(false, [.sl 93 h_9]), (false, [.sl 93 h_9])]
def Auz (r : (Bool × Unit)) : List RV × List RV := ([rv (false, [.bool]) r], [])
def Ml : Fns := [(150, .plain, A08)]
def Au0 : As := Aq Afl (fun d => (Qc d.1 d.2.1).val) Auz
def Anq : Sk := ⟨[(0, .v false [(.sl 93 h_9, .ro)]), (1, .v false [(.sl 93 h_9, .ro)]), (5, .v false [(.int .i64, .nil)])], [], []⟩
def Anr : List (Ex × Sk) := [(.ret, ⟨[(4, .v false [(.bool, .nil)])], [], []⟩), ((.exit 0), ⟨[], [], []⟩)]
def Afm : Bl := fun i st => cond (Nat.beq i 4) (lam Anq 5000000 Anr Iv st) <| .fail
theorem A38 : ∀ d, bod ⟨Az tys, Ax Ml, Ap Ml, 3, 4⟩ 0 Tryz.f25.ntmps Afm (Ac Tryz.f25 0) Anq 5000000 Anr d = Iv d := fun d => by kernel_rfl
theorem A39 (cx : Cx) (hp : cx.pin.length ≤ 0) : Bf Tryz.prog cx Tryz.f25.ntmps Afm (Ac Tryz.f25 0) := Bc (Al A2 Au (show A0 Tryz.prog Ml from ⟨Auy, trivial⟩)) hp (Aw (by kernel_rfl : Am (Ac Tryz.f25 0) = []) trivial) (by kernel_rfl) A38
theorem Bej : ∀ d, Bn ⟨Az tys, Ax Ml, Ap Ml, 3, 4⟩ 0 Afm Tryz.f25 .plain (mkA Afl d) = (Qc d.1 d.2.1).run fun r => some (Auz r) := fun d => by kernel_rfl
theorem Bal : Fn Tryz.prog 25 .plain Au0 := Br (Al A2 Au (show A0 Tryz.prog Ml from ⟨Auy, trivial⟩)) Tryz.func25 (by kernel_rfl) (by kernel_rfl) (fun cx b hp hb => Aw (by kernel_rfl : Am (Tryz.f25.body.getD .skip) = [Ac Tryz.f25 0]) ⟨A39 cx hp, trivial⟩ b hb) (R := (Bool × Unit)) (T := fun (d : Bw Afl) => Qc d.1 d.2.1) Bej
def W6 : List (Bool × List Sh) := [(false, [.sl 5 [.int .u8]]), (false, [.int .i64])]
def Ant (r : (YI) × (YBs)) : List RV × List RV := ([rv (false, [.int .i64]) r.1], [rv (false, [.sl 5 [.int .u8]]) r.2])
def I2 : Fns := []
def Eo : As := Aq W6 (fun d => (Lw d.1 d.2.1).val) Ant
def Acu : Sk := ⟨[(0, .v false [(.sl 5 [.int .u8], (.own 3000000))]), (1, .v false [(.int .i64, .nil)]), (5, .v false [(.int .i64, .nil)])], [], [3000000]⟩
def Acv : List (Ex × Sk) := [((.exit 0), ⟨[(0, .v false [(.sl 5 [.int .u8], (.own 3000000))]), (1, .v false [(.int .i64, .nil)])], [], [3000000]⟩)]
def W7 : Bl := fun i st => cond (Nat.beq i 2) (lam Acu 3000000 Acv Gf st) <| .fail
theorem Awy : ∀ d, bod ⟨Az tys, Ax I2, Ap I2, 3, 4⟩ 1 Tryz.f28.ntmps W7 (Ac Tryz.f28 0) Acu 3000000 Acv d = Gf d := fun d => by kernel_rfl
theorem Awz (cx : Cx) (hp : cx.pin.length ≤ 1) : Bf Tryz.prog cx Tryz.f28.ntmps W7 (Ac Tryz.f28 0) := Bc (Al A2 Au (show A0 Tryz.prog I2 from trivial)) hp (Aw (by kernel_rfl : Am (Ac Tryz.f28 0) = []) trivial) (by kernel_rfl) Awy
theorem A8b : ∀ d, Bn ⟨Az tys, Ax I2, Ap I2, 3, 4⟩ 1 W7 Tryz.f28 (.lend [1]) (mkA W6 d) = (Lw d.1 d.2.1).run fun r => some (Ant r) := fun d => by kernel_rfl
theorem Dl : Fn Tryz.prog 28 (.lend [1]) Eo := Br (Al A2 Au (show A0 Tryz.prog I2 from trivial)) Tryz.func28 (by kernel_rfl) (by kernel_rfl) (fun cx b hp hb => Aw (by kernel_rfl : Am (Tryz.f28.body.getD .skip) = [Ac Tryz.f28 0]) ⟨Awz cx hp, trivial⟩ b hb) (R := (YI) × (YBs)) (T := fun (d : Bw W6) => Lw d.1 d.2.1) A8b
def Abf : List (Bool × List Sh) := [(false, [.sl 3 [.int .i64]]), (false, [.int .i64])]
def Aq2 (r : (YI) × ((List YI) × Unit)) : List RV × List RV := ([rv (false, [.int .i64]) r.1], [rv (false, [.sl 3 [.int .i64]]) r.2])
def Kp : Fns := []
def Aq3 : As := Aq Abf (fun d => (Nm d.1 d.2.1).val) Aq2
def Ahb : Sk := ⟨[(0, .v false [(.sl 3 [.int .i64], (.own 3000000))]), (1, .v false [(.int .i64, .nil)]), (5, .v false [(.int .i64, .nil)])], [], [3000000]⟩
def Ahc : List (Ex × Sk) := [((.exit 0), ⟨[(0, .v false [(.sl 3 [.int .i64], (.own 3000000))]), (1, .v false [(.int .i64, .nil)])], [], [3000000]⟩)]
def Abg : Bl := fun i st => cond (Nat.beq i 2) (lam Ahb 3000000 Ahc Hn st) <| .fail
theorem A09 : ∀ d, bod ⟨Az tys, Ax Kp, Ap Kp, 3, 4⟩ 1 Tryz.f384.ntmps Abg (Ac Tryz.f384 0) Ahb 3000000 Ahc d = Hn d := fun d => by kernel_rfl
theorem A1a (cx : Cx) (hp : cx.pin.length ≤ 1) : Bf Tryz.prog cx Tryz.f384.ntmps Abg (Ac Tryz.f384 0) := Bc (Al A2 Au (show A0 Tryz.prog Kp from trivial)) hp (Aw (by kernel_rfl : Am (Ac Tryz.f384 0) = []) trivial) (by kernel_rfl) A09
theorem Bam : ∀ d, Bn ⟨Az tys, Ax Kp, Ap Kp, 3, 4⟩ 1 Abg Tryz.f384 (.lend [1]) (mkA Abf d) = (Nm d.1 d.2.1).run fun r => some (Aq2 r) := fun d => by kernel_rfl
theorem A8c : Fn Tryz.prog 384 (.lend [1]) Aq3 := Br (Al A2 Au (show A0 Tryz.prog Kp from trivial)) Tryz.func384 (by kernel_rfl) (by kernel_rfl) (fun cx b hp hb => Aw (by kernel_rfl : Am (Tryz.f384.body.getD .skip) = [Ac Tryz.f384 0]) ⟨A1a cx hp, trivial⟩ b hb) (R := (YI) × ((List YI) × Unit)) (T := fun (d : Bw Abf) => Nm d.1 d.2.1) Bam
def Au1 : As := Aq [(true, [.int .i64, .sl 3 [.int .i64]]), (false, [.int .i64])] (fun d => (Aes d.1 d.2.1).val) fun r => ([rv (false, [.int .i64]) r.1], [rv (true, [.int .i64, .sl 3 [.int .i64]]) r.2])
theorem Ban : Fn Tryz.prog 412 (.lend [1]) Au1 := mkF [(384, (.lend [1]), Aq3)] ⟨A8c, trivial⟩ Tryz.func412 (by kernel_rfl) (by kernel_rfl) (by kernel_rfl) 1 fun d => by kernel_rfl
def A1b : As := Aq [(true, h_6), (false, [.int .i64])] (fun d => (Akb d.1 d.2.1).val) fun r => ([rv (false, [.int .i64]) r.1], [rv (true, h_6) r.2])
theorem Bek : Fn Tryz.prog 357 (.lend [1]) A1b := mkF [(28, (.lend [1]), Eo), (412, (.lend [1]), Au1)] ⟨Dl, Ban, trivial⟩ Tryz.func357 (by kernel_rfl) (by kernel_rfl) (by kernel_rfl) 1 fun d => by kernel_rfl
def Aq4 : As := Aq [(true, Dd), (false, [.int .i64])] (fun d => (Aam d.1 d.2.1).val) fun r => ([rv (false, [.int .i64]) r.1], [rv (true, Dd) r.2])
theorem A8d : Fn Tryz.prog 236 (.lend [1]) Aq4 := mkF [(28, (.lend [1]), Eo), (357, (.lend [1]), A1b)] ⟨Dl, Bek, trivial⟩ Tryz.func236 (by kernel_rfl) (by kernel_rfl) (by kernel_rfl) 1 fun d => by kernel_rfl
def W8 : List (Bool × List Sh) := [(false, [.sl 311 h_5]), (false, [.int .i64])]
def Anu (r : (YI) × ((List Aj) × Unit)) : List RV × List RV := ([rv (false, [.int .i64]) r.1], [rv (false, [.sl 311 h_5]) r.2])
def I3 : Fns := [(28, (.lend [1]), Eo)]
def Anv : As := Aq W8 (fun d => (Lx d.1 d.2.1).val) Anu
def Acw : Sk := ⟨[(0, .v false [(.sl 311 h_5, (.own 3000000))]), (1, .v false [(.int .i64, .nil)]), (5, .v false [(.int .i64, .nil)])], [], [3000000]⟩
def Acx : List (Ex × Sk) := [((.exit 0), ⟨[(0, .v false [(.sl 311 h_5, (.own 3000000))]), (1, .v false [(.int .i64, .nil)])], [], [3000000]⟩)]
def W9 : Bl := fun i st => cond (Nat.beq i 2) (lam Acw 3000000 Acx Gg st) <| .fail
theorem Aw0 : ∀ d, bod ⟨Az tys, Ax I3, Ap I3, 3, 4⟩ 1 Tryz.f362.ntmps W9 (Ac Tryz.f362 0) Acw 3000000 Acx d = Gg d := fun d => by kernel_rfl
theorem Aw1 (cx : Cx) (hp : cx.pin.length ≤ 1) : Bf Tryz.prog cx Tryz.f362.ntmps W9 (Ac Tryz.f362 0) := Bc (Al A2 Au (show A0 Tryz.prog I3 from ⟨Dl, trivial⟩)) hp (Aw (by kernel_rfl : Am (Ac Tryz.f362 0) = []) trivial) (by kernel_rfl) Aw0
theorem A8e : ∀ d, Bn ⟨Az tys, Ax I3, Ap I3, 3, 4⟩ 1 W9 Tryz.f362 (.lend [1]) (mkA W8 d) = (Lx d.1 d.2.1).run fun r => some (Anu r) := fun d => by kernel_rfl
theorem A4a : Fn Tryz.prog 362 (.lend [1]) Anv := Br (Al A2 Au (show A0 Tryz.prog I3 from ⟨Dl, trivial⟩)) Tryz.func362 (by kernel_rfl) (by kernel_rfl) (fun cx b hp hb => Aw (by kernel_rfl : Am (Tryz.f362.body.getD .skip) = [Ac Tryz.f362 0]) ⟨Aw1 cx hp, trivial⟩ b hb) (R := (YI) × ((List Aj) × Unit)) (T := fun (d : Bw W8) => Lx d.1 d.2.1) A8e
def Anw : As := Aq [(true, h_7), (false, [.int .i64])] (fun d => (Wr d.1 d.2.1).val) fun r => ([rv (false, [.int .i64]) r.1], [rv (true, h_7) r.2])
theorem A4b : Fn Tryz.prog 242 (.lend [1]) Anw := mkF [(362, (.lend [1]), Anv)] ⟨A4a, trivial⟩ Tryz.func242 (by kernel_rfl) (by kernel_rfl) (by kernel_rfl) 1 fun d => by kernel_rfl
def Aq5 : As := Aq [(true, Kd), (false, [.int .i64])] (fun d => (Aao d.1 d.2.1).val) fun r => ([rv (false, [.int .i64]) r.1], [rv (true, Kd) r.2])
theorem A8f : Fn Tryz.prog 74 (.lend [1]) Aq5 := mkF [(28, (.lend [1]), Eo), (236, (.lend [1]), Aq4), (242, (.lend [1]), Anw)] ⟨Dl, A8d, A4b, trivial⟩ Tryz.func74 (by kernel_rfl) (by kernel_rfl) (by kernel_rfl) 1 fun d => by kernel_rfl
def Anx : As := Aq [(true, D5), (false, [.int .i64])] (fun d => (Wt d.1 d.2.1).val) fun r => ([rv (false, [.int .i64]) r.1], [rv (true, D5) r.2])
theorem A4c : Fn Tryz.prog 67 (.lend [1]) Anx := mkF [(28, (.lend [1]), Eo)] ⟨Dl, trivial⟩ Tryz.func67 (by kernel_rfl) (by kernel_rfl) (by kernel_rfl) 1 fun d => by kernel_rfl
def Abh : List (Bool × List Sh) := [(false, [.sl 158 Nq]), (false, [.int .i64])]
def Aq6 (r : (YI) × ((List Bg) × Unit)) : List RV × List RV := ([rv (false, [.int .i64]) r.1], [rv (false, [.sl 158 Nq]) r.2])
def Kq : Fns := [(28, (.lend [1]), Eo)]
def Aq7 : As := Aq Abh (fun d => (Nn d.1 d.2.1).val) Aq6
def Ahd : Sk := ⟨[(0, .v false [(.sl 158 Nq, (.own 3000000))]), (1, .v false [(.int .i64, .nil)]), (5, .v false [(.int .i64, .nil)])], [], [3000000]⟩
def Ahe : List (Ex × Sk) := [((.exit 0), ⟨[(0, .v false [(.sl 158 Nq, (.own 3000000))]), (1, .v false [(.int .i64, .nil)])], [], [3000000]⟩)]
def Abi : Bl := fun i st => cond (Nat.beq i 2) (lam Ahd 3000000 Ahe Ho st) <| .fail
theorem A1c : ∀ d, bod ⟨Az tys, Ax Kq, Ap Kq, 3, 4⟩ 1 Tryz.f29.ntmps Abi (Ac Tryz.f29 0) Ahd 3000000 Ahe d = Ho d := fun d => by kernel_rfl
theorem A1d (cx : Cx) (hp : cx.pin.length ≤ 1) : Bf Tryz.prog cx Tryz.f29.ntmps Abi (Ac Tryz.f29 0) := Bc (Al A2 Au (show A0 Tryz.prog Kq from ⟨Dl, trivial⟩)) hp (Aw (by kernel_rfl : Am (Ac Tryz.f29 0) = []) trivial) (by kernel_rfl) A1c
theorem Bao : ∀ d, Bn ⟨Az tys, Ax Kq, Ap Kq, 3, 4⟩ 1 Abi Tryz.f29 (.lend [1]) (mkA Abh d) = (Nn d.1 d.2.1).run fun r => some (Aq6 r) := fun d => by kernel_rfl
theorem A8g : Fn Tryz.prog 29 (.lend [1]) Aq7 := Br (Al A2 Au (show A0 Tryz.prog Kq from ⟨Dl, trivial⟩)) Tryz.func29 (by kernel_rfl) (by kernel_rfl) (fun cx b hp hb => Aw (by kernel_rfl : Am (Tryz.f29.body.getD .skip) = [Ac Tryz.f29 0]) ⟨A1d cx hp, trivial⟩ b hb) (R := (YI) × ((List Bg) × Unit)) (T := fun (d : Bw Abh) => Nn d.1 d.2.1) Bao
def Xa : List (Bool × List Sh) := [(false, [.sl 93 h_9]), (false, [.int .i64])]
def Any (r : (YI) × ((List A5) × Unit)) : List RV × List RV := ([rv (false, [.int .i64]) r.1], [rv (false, [.sl 93 h_9]) r.2])
def I4 : Fns := [(28, (.lend [1]), Eo)]
def Anz : As := Aq Xa (fun d => (Ly d.1 d.2.1).val) Any
def Acy : Sk := ⟨[(0, .v false [(.sl 93 h_9, (.own 3000000))]), (1, .v false [(.int .i64, .nil)]), (5, .v false [(.int .i64, .nil)])], [], [3000000]⟩
def Acz : List (Ex × Sk) := [((.exit 0), ⟨[(0, .v false [(.sl 93 h_9, (.own 3000000))]), (1, .v false [(.int .i64, .nil)])], [], [3000000]⟩)]
def Xb : Bl := fun i st => cond (Nat.beq i 2) (lam Acy 3000000 Acz Gi st) <| .fail
theorem Aw2 : ∀ d, bod ⟨Az tys, Ax I4, Ap I4, 3, 4⟩ 1 Tryz.f30.ntmps Xb (Ac Tryz.f30 0) Acy 3000000 Acz d = Gi d := fun d => by kernel_rfl
theorem Aw3 (cx : Cx) (hp : cx.pin.length ≤ 1) : Bf Tryz.prog cx Tryz.f30.ntmps Xb (Ac Tryz.f30 0) := Bc (Al A2 Au (show A0 Tryz.prog I4 from ⟨Dl, trivial⟩)) hp (Aw (by kernel_rfl : Am (Ac Tryz.f30 0) = []) trivial) (by kernel_rfl) Aw2
theorem A8h : ∀ d, Bn ⟨Az tys, Ax I4, Ap I4, 3, 4⟩ 1 Xb Tryz.f30 (.lend [1]) (mkA Xa d) = (Ly d.1 d.2.1).run fun r => some (Any r) := fun d => by kernel_rfl
theorem A4d : Fn Tryz.prog 30 (.lend [1]) Anz := Br (Al A2 Au (show A0 Tryz.prog I4 from ⟨Dl, trivial⟩)) Tryz.func30 (by kernel_rfl) (by kernel_rfl) (fun cx b hp hb => Aw (by kernel_rfl : Am (Tryz.f30.body.getD .skip) = [Ac Tryz.f30 0]) ⟨Aw3 cx hp, trivial⟩ b hb) (R := (YI) × ((List A5) × Unit)) (T := fun (d : Bw Xa) => Ly d.1 d.2.1) A8h
def Xc : List (Bool × List Sh) := [(false, [.sl 5 [.int .u8]]), (false, [.int .i64])]
def An0 (r : (YI)) : List RV × List RV := ([rv (false, [.int .i64]) r], [])
def I5 : Fns := []
def Gu : As := Aq Xc (fun d => (Lz d.1 d.2.1).val) An0
def Ac0 : Sk := ⟨[(0, .v false [(.sl 5 [.int .u8], .ro)]), (1, .v false [(.int .i64, .nil)]), (5, .v false [(.int .i64, .nil)])], [], []⟩
def Ac1 : List (Ex × Sk) := [(.ret, ⟨[(4, .v false [(.int .i64, .nil)])], [], []⟩), ((.exit 0), ⟨[(1, .v false [(.int .i64, .nil)])], [], []⟩)]
def Xd : Bl := fun i st => cond (Nat.beq i 2) (lam Ac0 3000000 Ac1 Gj st) <| .fail
theorem Aw4 : ∀ d, bod ⟨Az tys, Ax I5, Ap I5, 3, 4⟩ 0 Tryz.f161.ntmps Xd (Ac Tryz.f161 0) Ac0 3000000 Ac1 d = Gj d := fun d => by kernel_rfl
theorem Aw5 (cx : Cx) (hp : cx.pin.length ≤ 0) : Bf Tryz.prog cx Tryz.f161.ntmps Xd (Ac Tryz.f161 0) := Bc (Al A2 Au (show A0 Tryz.prog I5 from trivial)) hp (Aw (by kernel_rfl : Am (Ac Tryz.f161 0) = []) trivial) (by kernel_rfl) Aw4
theorem A8i : ∀ d, Bn ⟨Az tys, Ax I5, Ap I5, 3, 4⟩ 0 Xd Tryz.f161 .plain (mkA Xc d) = (Lz d.1 d.2.1).run fun r => some (An0 r) := fun d => by kernel_rfl
theorem Eb : Fn Tryz.prog 161 .plain Gu := Br (Al A2 Au (show A0 Tryz.prog I5 from trivial)) Tryz.func161 (by kernel_rfl) (by kernel_rfl) (fun cx b hp hb => Aw (by kernel_rfl : Am (Tryz.f161.body.getD .skip) = [Ac Tryz.f161 0]) ⟨Aw5 cx hp, trivial⟩ b hb) (R := (YI)) (T := fun (d : Bw Xc) => Lz d.1 d.2.1) A8i
def Abj : List (Bool × List Sh) := [(false, [.sl 3 [.int .i64]]), (false, [.int .i64])]
def Aq8 (r : (YI)) : List RV × List RV := ([rv (false, [.int .i64]) r], [])
def Kr : Fns := []
def Aq9 : As := Aq Abj (fun d => (No d.1 d.2.1).val) Aq8
def Ahf : Sk := ⟨[(0, .v false [(.sl 3 [.int .i64], .ro)]), (1, .v false [(.int .i64, .nil)]), (5, .v false [(.int .i64, .nil)])], [], []⟩
def Ahg : List (Ex × Sk) := [(.ret, ⟨[(4, .v false [(.int .i64, .nil)])], [], []⟩), ((.exit 0), ⟨[(1, .v false [(.int .i64, .nil)])], [], []⟩)]
def Abk : Bl := fun i st => cond (Nat.beq i 2) (lam Ahf 3000000 Ahg Hp st) <| .fail
theorem A1e : ∀ d, bod ⟨Az tys, Ax Kr, Ap Kr, 3, 4⟩ 0 Tryz.f385.ntmps Abk (Ac Tryz.f385 0) Ahf 3000000 Ahg d = Hp d := fun d => by kernel_rfl
theorem A1f (cx : Cx) (hp : cx.pin.length ≤ 0) : Bf Tryz.prog cx Tryz.f385.ntmps Abk (Ac Tryz.f385 0) := Bc (Al A2 Au (show A0 Tryz.prog Kr from trivial)) hp (Aw (by kernel_rfl : Am (Ac Tryz.f385 0) = []) trivial) (by kernel_rfl) A1e
theorem Bap : ∀ d, Bn ⟨Az tys, Ax Kr, Ap Kr, 3, 4⟩ 0 Abk Tryz.f385 .plain (mkA Abj d) = (No d.1 d.2.1).run fun r => some (Aq8 r) := fun d => by kernel_rfl
theorem A8j : Fn Tryz.prog 385 .plain Aq9 := Br (Al A2 Au (show A0 Tryz.prog Kr from trivial)) Tryz.func385 (by kernel_rfl) (by kernel_rfl) (fun cx b hp hb => Aw (by kernel_rfl : Am (Tryz.f385.body.getD .skip) = [Ac Tryz.f385 0]) ⟨A1f cx hp, trivial⟩ b hb) (R := (YI)) (T := fun (d : Bw Abj) => No d.1 d.2.1) Bap
def Au2 : As := Aq [(true, [.int .i64, .sl 3 [.int .i64]]), (false, [.int .i64])] (fun d => (Aeu d.1 d.2.1).val) fun r => ([rv (false, [.int .i64]) r], [])
theorem Baq : Fn Tryz.prog 413 .plain Au2 := mkF [(385, .plain, Aq9)] ⟨A8j, trivial⟩ Tryz.func413 (by kernel_rfl) (by kernel_rfl) (by kernel_rfl) 0 fun d => by kernel_rfl
def A1g : As := Aq [(true, h_6), (false, [.int .i64])] (fun d => (Akc d.1 d.2.1).val) fun r => ([rv (false, [.int .i64]) r], [])
theorem Bel : Fn Tryz.prog 358 .plain A1g := mkF [(161, .plain, Gu), (413, .plain, Au2)] ⟨Eb, Baq, trivial⟩ Tryz.func358 (by kernel_rfl) (by kernel_rfl) (by kernel_rfl) 0 fun d => by kernel_rfl
def Ara : As := Aq [(true, Dd), (false, [.int .i64])] (fun d => (Aar d.1 d.2.1).val) fun r => ([rv (false, [.int .i64]) r], [])
theorem A8k : Fn Tryz.prog 238 .plain Ara := mkF [(161, .plain, Gu), (358, .plain, A1g)] ⟨Eb, Bel, trivial⟩ Tryz.func238 (by kernel_rfl) (by kernel_rfl) (by kernel_rfl) 0 fun d => by kernel_rfl
def Xe : List (Bool × List Sh) := [(false, [.sl 311 h_5]), (false, [.int .i64])]
def An1 (r : (YI)) : List RV × List RV := ([rv (false, [.int .i64]) r], [])
def I6 : Fns := [(161, .plain, Gu)]
def An2 : As := Aq Xe (fun d => (L0 d.1 d.2.1).val) An1
def Ac2 : Sk := ⟨[(0, .v false [(.sl 311 h_5, .ro)]), (1, .v false [(.int .i64, .nil)]), (5, .v false [(.int .i64, .nil)])], [], []⟩
def Ac3 : List (Ex × Sk) := [(.ret, ⟨[(4, .v false [(.int .i64, .nil)])], [], []⟩), ((.exit 0), ⟨[(1, .v false [(.int .i64, .nil)])], [], []⟩)]
def Xf : Bl := fun i st => cond (Nat.beq i 2) (lam Ac2 3000000 Ac3 Gk st) <| .fail
theorem Aw6 : ∀ d, bod ⟨Az tys, Ax I6, Ap I6, 3, 4⟩ 0 Tryz.f363.ntmps Xf (Ac Tryz.f363 0) Ac2 3000000 Ac3 d = Gk d := fun d => by kernel_rfl
theorem Aw7 (cx : Cx) (hp : cx.pin.length ≤ 0) : Bf Tryz.prog cx Tryz.f363.ntmps Xf (Ac Tryz.f363 0) := Bc (Al A2 Au (show A0 Tryz.prog I6 from ⟨Eb, trivial⟩)) hp (Aw (by kernel_rfl : Am (Ac Tryz.f363 0) = []) trivial) (by kernel_rfl) Aw6
theorem A8l : ∀ d, Bn ⟨Az tys, Ax I6, Ap I6, 3, 4⟩ 0 Xf Tryz.f363 .plain (mkA Xe d) = (L0 d.1 d.2.1).run fun r => some (An1 r) := fun d => by kernel_rfl
theorem A4e : Fn Tryz.prog 363 .plain An2 := Br (Al A2 Au (show A0 Tryz.prog I6 from ⟨Eb, trivial⟩)) Tryz.func363 (by kernel_rfl) (by kernel_rfl) (fun cx b hp hb => Aw (by kernel_rfl : Am (Tryz.f363.body.getD .skip) = [Ac Tryz.f363 0]) ⟨Aw7 cx hp, trivial⟩ b hb) (R := (YI)) (T := fun (d : Bw Xe) => L0 d.1 d.2.1) A8l
def An3 : As := Aq [(true, h_7), (false, [.int .i64])] (fun d => (Wx d.1 d.2.1).val) fun r => ([rv (false, [.int .i64]) r], [])
theorem A4f : Fn Tryz.prog 243 .plain An3 := mkF [(363, .plain, An2)] ⟨A4e, trivial⟩ Tryz.func243 (by kernel_rfl) (by kernel_rfl) (by kernel_rfl) 0 fun d => by kernel_rfl
def Arb : As := Aq [(true, Kd), (false, [.int .i64])] (fun d => (Aas d.1 d.2.1).val) fun r => ([rv (false, [.int .i64]) r], [])
theorem A8m : Fn Tryz.prog 75 .plain Arb := mkF [(161, .plain, Gu), (238, .plain, Ara), (243, .plain, An3)] ⟨Eb, A8k, A4f, trivial⟩ Tryz.func75 (by kernel_rfl) (by kernel_rfl) (by kernel_rfl) 0 fun d => by kernel_rfl
def Abl : List (Bool × List Sh) := [(false, [.sl 158 Nq]), (false, [.int .i64])]
def Arc (r : (YI)) : List RV × List RV := ([rv (false, [.int .i64]) r], [])
def Ks : Fns := [(161, .plain, Gu)]
def Ard : As := Aq Abl (fun d => (Np d.1 d.2.1).val) Arc
def Ahh : Sk := ⟨[(0, .v false [(.sl 158 Nq, .ro)]), (1, .v false [(.int .i64, .nil)]), (5, .v false [(.int .i64, .nil)])], [], []⟩
def Ahi : List (Ex × Sk) := [(.ret, ⟨[(4, .v false [(.int .i64, .nil)])], [], []⟩), ((.exit 0), ⟨[(1, .v false [(.int .i64, .nil)])], [], []⟩)]
def Abm : Bl := fun i st => cond (Nat.beq i 2) (lam Ahh 3000000 Ahi Hq st) <| .fail
theorem A1h : ∀ d, bod ⟨Az tys, Ax Ks, Ap Ks, 3, 4⟩ 0 Tryz.f32.ntmps Abm (Ac Tryz.f32 0) Ahh 3000000 Ahi d = Hq d := fun d => by kernel_rfl
theorem A1i (cx : Cx) (hp : cx.pin.length ≤ 0) : Bf Tryz.prog cx Tryz.f32.ntmps Abm (Ac Tryz.f32 0) := Bc (Al A2 Au (show A0 Tryz.prog Ks from ⟨Eb, trivial⟩)) hp (Aw (by kernel_rfl : Am (Ac Tryz.f32 0) = []) trivial) (by kernel_rfl) A1h
theorem Bar : ∀ d, Bn ⟨Az tys, Ax Ks, Ap Ks, 3, 4⟩ 0 Abm Tryz.f32 .plain (mkA Abl d) = (Np d.1 d.2.1).run fun r => some (Arc r) := fun d => by kernel_rfl
theorem A8n : Fn Tryz.prog 32 .plain Ard := Br (Al A2 Au (show A0 Tryz.prog Ks from ⟨Eb, trivial⟩)) Tryz.func32 (by kernel_rfl) (by kernel_rfl) (fun cx b hp hb => Aw (by kernel_rfl : Am (Tryz.f32.body.getD .skip) = [Ac Tryz.f32 0]) ⟨A1i cx hp, trivial⟩ b hb) (R := (YI)) (T := fun (d : Bw Abl) => Np d.1 d.2.1) Bar
def Xg : List (Bool × List Sh) := [(false, [.sl 93 h_9]), (false, [.int .i64])]
def An4 (r : (YI)) : List RV × List RV := ([rv (false, [.int .i64]) r], [])
def I7 : Fns := [(161, .plain, Gu)]
def An5 : As := Aq Xg (fun d => (L3 d.1 d.2.1).val) An4
def Ac4 : Sk := ⟨[(0, .v false [(.sl 93 h_9, .ro)]), (1, .v false [(.int .i64, .nil)]), (5, .v false [(.int .i64, .nil)])], [], []⟩
def Ac5 : List (Ex × Sk) := [(.ret, ⟨[(4, .v false [(.int .i64, .nil)])], [], []⟩), ((.exit 0), ⟨[(1, .v false [(.int .i64, .nil)])], [], []⟩)]
def Xh : Bl := fun i st => cond (Nat.beq i 2) (lam Ac4 3000000 Ac5 Gl st) <| .fail
theorem Aw8 : ∀ d, bod ⟨Az tys, Ax I7, Ap I7, 3, 4⟩ 0 Tryz.f33.ntmps Xh (Ac Tryz.f33 0) Ac4 3000000 Ac5 d = Gl d := fun d => by kernel_rfl
theorem Aw9 (cx : Cx) (hp : cx.pin.length ≤ 0) : Bf Tryz.prog cx Tryz.f33.ntmps Xh (Ac Tryz.f33 0) := Bc (Al A2 Au (show A0 Tryz.prog I7 from ⟨Eb, trivial⟩)) hp (Aw (by kernel_rfl : Am (Ac Tryz.f33 0) = []) trivial) (by kernel_rfl) Aw8
theorem A8o : ∀ d, Bn ⟨Az tys, Ax I7, Ap I7, 3, 4⟩ 0 Xh Tryz.f33 .plain (mkA Xg d) = (L3 d.1 d.2.1).run fun r => some (An4 r) := fun d => by kernel_rfl
theorem A4g : Fn Tryz.prog 33 .plain An5 := Br (Al A2 Au (show A0 Tryz.prog I7 from ⟨Eb, trivial⟩)) Tryz.func33 (by kernel_rfl) (by kernel_rfl) (fun cx b hp hb => Aw (by kernel_rfl : Am (Tryz.f33.body.getD .skip) = [Ac Tryz.f33 0]) ⟨Aw9 cx hp, trivial⟩ b hb) (R := (YI)) (T := fun (d : Bw Xg) => L3 d.1 d.2.1) A8o
def Ei : List (Bool × List Sh) := [(true, A2z), (false, [.int .i64]), (true, [.int .i64, .int .i64]), (true, D5), (false, [.sl 5 [.int .u8]])]
def Mp (r : (Bool × Unit)) : List RV × List RV := ([rv (false, [.bool]) r], [])
def Mq : Fns := [(71, .plain, Ayg), (59, .plain, Atr), (72, .plain, Ayl), (21, .plain, X0), (62, .plain, Atx), (22, .plain, Jw), (49, .plain, Apy), (48, .plain, Aqw), (73, .plain, A04), (24, .plain, A07), (25, .plain, Au0), (65, .plain, Afk), (26, .plain, Hg), (74, (.lend [1]), Aq5), (67, (.lend [1]), Anx), (28, (.lend [1]), Eo), (29, (.lend [1]), Aq7), (30, (.lend [1]), Anz), (75, .plain, Arb), (32, .plain, Ard), (33, .plain, An5)]
def Aoc : As := Aq Ei (fun d => (D3 d.1 d.2.1 d.2.2.1 d.2.2.2.1 d.2.2.2.2.1).val) Mp
def Aod : Bl := fun _ _ => .fail
theorem Aoe : ∀ d, Bn ⟨Az tys, Ax Mq, Ap Mq, 3, 4⟩ 0 Aod Tryz.f9 .plain (mkA Ei d) = (D3 d.1 d.2.1 d.2.2.1 d.2.2.2.1 d.2.2.2.2.1).run fun r => some (Mp r) := fun d => by kernel_rfl
theorem Alj : Fn Tryz.prog 9 .plain Aoc := Br (Al A2 Au (show A0 Tryz.prog Mq from ⟨Bc0, A8z, Bc5, Aez, A83, Ke, A7i, A76, Beh, Bei, Bal, Aqz, Ia, A8f, A4c, Dl, A8g, A4d, A8m, A8n, A4g, trivial⟩)) Tryz.func9 (by kernel_rfl) (by kernel_rfl) (fun cx b hp hb => Aw (by kernel_rfl : Am (Tryz.f9.body.getD .skip) = []) trivial b hb) (R := (Bool × Unit)) (T := fun (d : Bw Ei) => D3 d.1 d.2.1 d.2.2.1 d.2.2.2.1 d.2.2.2.2.1) Aoe
end
end Go.Proofs.YtggdikabbngbaaaGreat

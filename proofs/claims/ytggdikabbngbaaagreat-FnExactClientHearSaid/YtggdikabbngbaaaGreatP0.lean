/-
  That the functions of the seat answer what the terms of text W say; nothing is assumed.
-/
import Derived.Test.YtggdikabbngbaaaGreatW
import Derived.Test.YtggdikabbngbaaaGreatProg
import Derived.KernelRfl
namespace Go.Proofs.YtggdikabbngbaaaGreat
open Go.RowKit
set_option linter.unusedVariables false
set_option maxRecDepth 100000
set_option maxHeartbeats 4000000
noncomputable section
abbrev h_0 : List Sh := [.int .i64, .int .i64, .bool, .int .u8]
abbrev h_1 : List Sh := [.bool, .int .i64, .int .i64, .int .i64]
abbrev h_2 : List Sh := [.sl 5 [.int .u8], .int .i64, .int .i64]
abbrev h_3 : List Sh := [.int .i64, .int .i64, .int .i64, .int .i64]
abbrev h_4 : List Sh := [.sl 3 [.int .i64], .sl 5 [.int .u8], .int .i64]
abbrev h_5 : List Sh := [.int .i64, .int .i64, .sl 5 [.int .u8], .int .i64]
abbrev h_6 : List Sh := [.int .i64, .sl 5 [.int .u8], .int .i64, .int .i64, .sl 3 [.int .i64]]
abbrev h_7 : List Sh := [.int .i64, .int .i64, .sl 311 h_5]
abbrev h_8 : List Sh := [.int .i64, .int .i64, .sl 361 h_5]
abbrev h_9 : List Sh := [.int .i64, .int .i64, .int .i64, .sl 5 [.int .u8], .sl 5 [.int .u8], .int .i64, .int .i64, .sl 5 [.int .u8], .sl 5 [.int .u8], .int .i64, .int .i64, .int .i64]
abbrev B8 : List Sh := [.int .i64, .int .i64, .sl 5 [.int .u8], .sl 5 [.int .u8], .int .i64, .sl 5 [.int .u8], .sl 5 [.int .u8], .int .i64, .int .i64, .sl 5 [.int .u8], .sl 5 [.int .u8]]
abbrev Bpe : List Sh := [.int .i64, .int .i64, .int .i64, .int .i64, .sl 5 [.int .u8], .sl 5 [.int .u8], .int .i64, .sl 5 [.int .u8], .sl 5 [.int .u8], .int .i64, .int .i64, .sl 5 [.int .u8], .sl 5 [.int .u8]]
abbrev D4 : List Sh := [.int .i64, .sl 5 [.int .u8], .int .i64, .sl 5 [.int .u8], .int .i64, .int .i64, .sl 3 [.int .i64], .int .i64, .sl 5 [.int .u8], .int .i64, .int .i64, .sl 3 [.int .i64], .bool, .int .i64, .sl 5 [.int .u8]]
abbrev Bo3 : List Sh := [.int .i64, .sl 5 [.int .u8], .sl 5 [.int .u8], .int .i64, .sl 5 [.int .u8], .int .i64, .sl 5 [.int .u8], .int .i64, .int .i64, .sl 3 [.int .i64], .int .i64, .sl 5 [.int .u8], .int .i64, .int .i64, .sl 3 [.int .i64], .bool, .int .i64, .sl 5 [.int .u8], .int .i64, .int .i64, .sl 311 h_5, .int .i64, .int .i64, .bool]
abbrev Bo4 : List Sh := [.int .i64, .sl 5 [.int .u8], .sl 5 [.int .u8], .int .i64, .sl 5 [.int .u8], .int .i64, .sl 5 [.int .u8], .int .i64, .int .i64, .sl 3 [.int .i64], .int .i64, .sl 5 [.int .u8], .int .i64, .int .i64, .sl 3 [.int .i64], .bool, .int .i64, .sl 5 [.int .u8], .int .i64, .int .i64, .sl 361 h_5, .int .i64, .int .i64, .bool]
abbrev Bpf : List Sh := [.sl 22 [.sl 5 [.int .u8]], .sl 5 [.int .u8], .sl 5 [.int .u8], .int .i64, .int .i64, .sl 103 Bo3, .sl 271 h_3]
abbrev Bpg : List Sh := [.sl 22 [.sl 5 [.int .u8]], .sl 5 [.int .u8], .sl 5 [.int .u8], .int .i64, .int .i64, .sl 138 Bo4, .sl 291 h_3]
abbrev Fk : List Sh := [.int .i64, .sl 5 [.int .u8], .int .i64, .int .i64, .int .i64, .sl 5 [.int .u8], .int .i64, .int .i64, .sl 5 [.int .u8], .sl 5 [.int .u8], .int .i64, .sl 5 [.int .u8], .sl 5 [.int .u8], .int .i64, .int .i64, .sl 5 [.int .u8], .sl 5 [.int .u8], .int .i64, .sl 5 [.int .u8], .int .i64, .sl 5 [.int .u8], .int .i64, .int .i64, .sl 3 [.int .i64], .int .i64, .sl 5 [.int .u8], .int .i64, .int .i64, .sl 3 [.int .i64], .bool, .int .i64, .sl 5 [.int .u8], .bool, .int .i64, .int .i64, .int .i64, .bool, .int .i64, .int .i64, .int .i64, .int .i64]
def tys : List (Nat × Ty) := [(3, ⟨false, [.int .i64], [], false, []⟩),
 (4, ⟨false, [.bool], [], false, []⟩),
 (5, ⟨false, [.int .u8], [], false, []⟩),
 (9, ⟨false, [.str], [], false, []⟩),
 (22, ⟨false, [.sl 5 [.int .u8]], [], false, []⟩),
 (24, ⟨false, [.sl 22 [.sl 5 [.int .u8]]], [], false, []⟩),
 (36, ⟨true, [.int .i64, .int .i64], [(0, 1), (1, 1)], true, []⟩),
 (40, ⟨false, [.sl 93 h_9], [], false, []⟩),
 (44, ⟨true, B8, [(0, 1), (1, 1), (2, 1), (3, 1), (4, 1), (5, 1), (6, 1), (7, 1), (8, 1), (9, 1), (10, 1)], false, []⟩),
 (58, ⟨true, [.int .i64, .int .i64], [(0, 1), (1, 1)], true, []⟩),
 (70, ⟨false, [.sl 3 [.int .i64]], [], false, []⟩),
 (72, ⟨true, [.int .i64, .sl 3 [.int .i64]], [(0, 1), (1, 1)], false, []⟩),
 (74, ⟨true, h_6, [(0, 1), (1, 1), (2, 1), (3, 2)], false, []⟩),
 (76, ⟨true, D4, [(0, 1), (1, 1), (2, 5), (7, 5), (12, 1), (13, 1), (14, 1)], false, []⟩),
 (78, ⟨true, h_1, [(0, 1), (1, 1), (2, 1), (3, 1)], true, []⟩),
 (80, ⟨true, Fk, [(0, 1), (1, 1), (2, 2), (4, 1), (5, 1), (6, 11), (17, 15), (32, 4), (36, 4), (40, 1)], false, []⟩),
 (83, ⟨false, [.sl 44 B8], [], false, []⟩),
 (93, ⟨true, h_9, [(0, 1), (1, 1), (2, 1), (3, 1), (4, 1), (5, 1), (6, 1), (7, 1), (8, 1), (9, 2), (11, 1)], false, []⟩),
 (116, ⟨true, B8, [(0, 1), (1, 1), (2, 1), (3, 1), (4, 1), (5, 1), (6, 1), (7, 1), (8, 1), (9, 1), (10, 1)], false, []⟩),
 (117, ⟨true, [.int .i64, .sl 3 [.int .i64]], [(0, 1), (1, 1)], false, []⟩),
 (119, ⟨true, h_6, [(0, 1), (1, 1), (2, 1), (3, 2)], false, []⟩),
 (121, ⟨true, D4, [(0, 1), (1, 1), (2, 5), (7, 5), (12, 1), (13, 1), (14, 1)], false, []⟩),
 (122, ⟨true, h_1, [(0, 1), (1, 1), (2, 1), (3, 1)], true, []⟩),
 (124, ⟨true, Fk, [(0, 1), (1, 1), (2, 2), (4, 1), (5, 1), (6, 11), (17, 15), (32, 4), (36, 4), (40, 1)], false, []⟩),
 (345, ⟨false, [.int .u64], [], false, []⟩),
 (378, ⟨true, h_4, [(0, 1), (1, 1), (2, 1)], false, []⟩)]
theorem Aw : Be8 Tryz.prog tys = true := by kernel_rfl
theorem A6 : Tryz.prog.follows .mixedOrders = true := by kernel_rfl
theorem mkF {f : FuncId} {fn : Func} {kd : Kind} {ps : List (Bool × List Sh)} {R : Type} {T : Bw ps → Tree R} {rvs : R → List RV × List RV} (C : Fns) (hc : A5 Tryz.prog C) (hf : Tryz.prog.funcs[f]? = some fn) (hn : (fn.name == "runtime.NumGoroutine") = false) (hb : fn.body.isSome = true) (hl : Ar (fn.body.getD .skip) = []) (np : Nat)
  (he : ∀ d, Bs ⟨A3 tys, A1 C, Av C, 3, 4⟩ np (fun _ _ => .fail) fn kd (mkA ps d) = (T d).run fun r => some (rvs r)) : Fn Tryz.prog f kd (As ps (fun d => (T d).val) rvs) :=
 Bu (Aq A6 Aw hc) hf hn hb (fun cx b hp hbb => by rw [hl] at hbb; cases hbb) he
def Oj : Au := As [(false, [.sl 5 [.int .u8]]), (false, [.int .i64])] (fun d => (Afc d.1 d.2.1).val) fun r => ([rv (false, [.int .i64]) r], [])
theorem Q8 : Fn Tryz.prog 225 .plain Oj := mkF [] trivial Tryz.func225 (by kernel_rfl) (by kernel_rfl) (by kernel_rfl) 0 fun d => by kernel_rfl
def Agh : Au := As [(true, B8), (false, [.int .i64])] (fun d => (Afd d.1 d.2.1).val) fun r => ([rv (false, [.int .i64]) r], [])
theorem Aph : Fn Tryz.prog 59 .plain Agh := mkF [(225, .plain, Oj)] ⟨Q8, trivial⟩ Tryz.func59 (by kernel_rfl) (by kernel_rfl) (by kernel_rfl) 0 fun d => by kernel_rfl
def Aye : Au := As [(false, [.sl 3 [.int .i64]]), (false, [.int .i64])] (fun d => (Ajv d.1 d.2.1).val) fun r => ([rv (false, [.int .i64]) r], [])
theorem Bbu : Fn Tryz.prog 436 .plain Aye := mkF [] trivial Tryz.func436 (by kernel_rfl) (by kernel_rfl) (by kernel_rfl) 0 fun d => by kernel_rfl
def A4c : Au := As [(true, [.int .i64, .sl 3 [.int .i64]]), (false, [.int .i64])] (fun d => (Aow d.1 d.2.1).val) fun r => ([rv (false, [.int .i64]) r], [])
theorem Be9 : Fn Tryz.prog 409 .plain A4c := mkF [(436, .plain, Aye)] ⟨Bbu, trivial⟩ Tryz.func409 (by kernel_rfl) (by kernel_rfl) (by kernel_rfl) 0 fun d => by kernel_rfl
def A7x : Au := As [(true, h_6), (false, [.int .i64])] (fun d => (Avr d.1 d.2.1).val) fun r => ([rv (false, [.int .i64]) r], [])
theorem Bhx : Fn Tryz.prog 351 .plain A7x := mkF [(225, .plain, Oj), (409, .plain, A4c)] ⟨Q8, Be9, trivial⟩ Tryz.func351 (by kernel_rfl) (by kernel_rfl) (by kernel_rfl) 0 fun d => by kernel_rfl
def Ayf : Au := As [(true, D4), (false, [.int .i64])] (fun d => (Ajy d.1 d.2.1).val) fun r => ([rv (false, [.int .i64]) r], [])
theorem Bbv : Fn Tryz.prog 226 .plain Ayf := mkF [(225, .plain, Oj), (351, .plain, A7x)] ⟨Q8, Bhx, trivial⟩ Tryz.func226 (by kernel_rfl) (by kernel_rfl) (by kernel_rfl) 0 fun d => by kernel_rfl
def Api : Au := As [(true, Fk), (false, [.int .i64])] (fun d => (Aaq d.1 d.2.1).val) fun r => ([rv (false, [.int .i64]) r], [])
theorem A50 : Fn Tryz.prog 58 .plain Api := mkF [(225, .plain, Oj), (59, .plain, Agh), (226, .plain, Ayf)] ⟨Q8, Aph, Bbv, trivial⟩ Tryz.func58 (by kernel_rfl) (by kernel_rfl) (by kernel_rfl) 0 fun d => by kernel_rfl
def Agi : List (Bool × List Sh) := [(false, [.sl 5 [.int .u8]])]
def At2 (r : (YBs)) : List RV × List RV := ([rv (false, [.sl 5 [.int .u8]]) r], [])
def Li : Fns := []
def Ok : Au := As Agi (fun d => (Oa d.1).val) At2
def An4 : Sk := ⟨[(0, .v false [(.sl 5 [.int .u8], .ro)]), (3, .v false [(.sl 5 [.int .u8], (.own 4000000))]), (4, .v false [(.int .i64, .nil)])], [], [4000000]⟩
def An5 : List (Ex × Sk) := [((.exit 0), ⟨[(3, .v false [(.sl 5 [.int .u8], (.own 4000000))])], [], [4000000]⟩)]
def Agj : Bp := fun i st => cond (Nat.beq i 3) (lam An4 4000000 An5 H2 st) <| .fail
theorem A2g : ∀ d, bod ⟨A3 tys, A1 Li, Av Li, 3, 4⟩ 0 Tryz.f22.ntmps Agj (Ai Tryz.f22 0) An4 4000000 An5 d = H2 d := fun d => by kernel_rfl
theorem A2h (cx : Cx) (hp : cx.pin.length ≤ 0) : Bh Tryz.prog cx Tryz.f22.ntmps Agj (Ai Tryz.f22 0) := Be (Aq A6 Aw (show A5 Tryz.prog Li from trivial)) hp (Ax (by kernel_rfl : Ar (Ai Tryz.f22 0) = []) trivial) (by kernel_rfl) A2g
theorem Bbw : ∀ d, Bs ⟨A3 tys, A1 Li, Av Li, 3, 4⟩ 0 Agj Tryz.f22 .plain (mkA Agi d) = (Oa d.1).run fun r => some (At2 r) := fun d => by kernel_rfl
theorem Q9 : Fn Tryz.prog 22 .plain Ok := Bu (Aq A6 Aw (show A5 Tryz.prog Li from trivial)) Tryz.func22 (by kernel_rfl) (by kernel_rfl) (fun cx b hp hb => Ax (by kernel_rfl : Ar (Tryz.f22.body.getD .skip) = [Ai Tryz.f22 0]) ⟨A2h cx hp, trivial⟩ b hb) (R := (YBs)) (T := fun (d : Bw Agi) => Oa d.1) Bbw
def Ayg : Au := As [(true, [.int .i64, .int .i64])] (fun d => (Aj0 d.1).val) fun r => ([rv (true, [.int .i64, .int .i64]) r], [])
theorem Bbx : Fn Tryz.prog 21 .plain Ayg := mkF [] trivial Tryz.func21 (by kernel_rfl) (by kernel_rfl) (by kernel_rfl) 0 fun d => by kernel_rfl
def Agk : Au := As [(true, B8)] (fun d => (Afe d.1).val) fun r => ([rv (true, B8) r], [])
theorem Apj : Fn Tryz.prog 62 .plain Agk := mkF [(22, .plain, Ok)] ⟨Q9, trivial⟩ Tryz.func62 (by kernel_rfl) (by kernel_rfl) (by kernel_rfl) 0 fun d => by kernel_rfl
def Alw : List (Bool × List Sh) := [(false, [.sl 3 [.int .i64]])]
def Ayh (r : ((List YI) × Unit)) : List RV × List RV := ([rv (false, [.sl 3 [.int .i64]]) r], [])
def Nk : Fns := []
def Ayi : Au := As Alw (fun d => (Qj d.1).val) Ayh
def Apk : Sk := ⟨[(0, .v false [(.sl 3 [.int .i64], .ro)]), (3, .v false [(.sl 3 [.int .i64], (.own 4000000))]), (4, .v false [(.int .i64, .nil)])], [], [4000000]⟩
def Apl : List (Ex × Sk) := [((.exit 0), ⟨[(3, .v false [(.sl 3 [.int .i64], (.own 4000000))])], [], [4000000]⟩)]
def Alx : Bp := fun i st => cond (Nat.beq i 3) (lam Apk 4000000 Apl Jm st) <| .fail
theorem A51 : ∀ d, bod ⟨A3 tys, A1 Nk, Av Nk, 3, 4⟩ 0 Tryz.f437.ntmps Alx (Ai Tryz.f437 0) Apk 4000000 Apl d = Jm d := fun d => by kernel_rfl
theorem A52 (cx : Cx) (hp : cx.pin.length ≤ 0) : Bh Tryz.prog cx Tryz.f437.ntmps Alx (Ai Tryz.f437 0) := Be (Aq A6 Aw (show A5 Tryz.prog Nk from trivial)) hp (Ax (by kernel_rfl : Ar (Ai Tryz.f437 0) = []) trivial) (by kernel_rfl) A51
theorem Bfa : ∀ d, Bs ⟨A3 tys, A1 Nk, Av Nk, 3, 4⟩ 0 Alx Tryz.f437 .plain (mkA Alw d) = (Qj d.1).run fun r => some (Ayh r) := fun d => by kernel_rfl
theorem Bby : Fn Tryz.prog 437 .plain Ayi := Bu (Aq A6 Aw (show A5 Tryz.prog Nk from trivial)) Tryz.func437 (by kernel_rfl) (by kernel_rfl) (fun cx b hp hb => Ax (by kernel_rfl : Ar (Tryz.f437.body.getD .skip) = [Ai Tryz.f437 0]) ⟨A52 cx hp, trivial⟩ b hb) (R := ((List YI) × Unit)) (T := fun (d : Bw Alw) => Qj d.1) Bfa
def A4d : Au := As [(true, [.int .i64, .sl 3 [.int .i64]])] (fun d => (Aoy d.1).val) fun r => ([rv (true, [.int .i64, .sl 3 [.int .i64]]) r], [])
theorem Bfb : Fn Tryz.prog 410 .plain A4d := mkF [(437, .plain, Ayi)] ⟨Bby, trivial⟩ Tryz.func410 (by kernel_rfl) (by kernel_rfl) (by kernel_rfl) 0 fun d => by kernel_rfl
def A7y : Au := As [(true, h_6)] (fun d => (Avs d.1).val) fun r => ([rv (true, h_6) r], [])
theorem Bhy : Fn Tryz.prog 355 .plain A7y := mkF [(22, .plain, Ok), (410, .plain, A4d)] ⟨Q9, Bfb, trivial⟩ Tryz.func355 (by kernel_rfl) (by kernel_rfl) (by kernel_rfl) 0 fun d => by kernel_rfl
def Ayj : Au := As [(true, D4)] (fun d => (Aj4 d.1).val) fun r => ([rv (true, D4) r], [])
theorem Bbz : Fn Tryz.prog 231 .plain Ayj := mkF [(22, .plain, Ok), (355, .plain, A7y)] ⟨Q9, Bhy, trivial⟩ Tryz.func231 (by kernel_rfl) (by kernel_rfl) (by kernel_rfl) 0 fun d => by kernel_rfl
def At3 : Au := As [(true, h_1)] (fun d => (Aff d.1).val) fun r => ([rv (true, h_1) r], [])
theorem A7z : Fn Tryz.prog 232 .plain At3 := mkF [] trivial Tryz.func232 (by kernel_rfl) (by kernel_rfl) (by kernel_rfl) 0 fun d => by kernel_rfl
def Apm : Au := As [(true, Fk)] (fun d => (Aas d.1).val) fun r => ([rv (true, Fk) r], [])
theorem A53 : Fn Tryz.prog 61 .plain Apm := mkF [(22, .plain, Ok), (21, .plain, Ayg), (62, .plain, Agk), (231, .plain, Ayj), (232, .plain, At3)] ⟨Q9, Bbx, Apj, Bbz, A7z, trivial⟩ Tryz.func61 (by kernel_rfl) (by kernel_rfl) (by kernel_rfl) 0 fun d => by kernel_rfl
def Z2 : Au := As [(true, B8)] (fun d => (Aj6 d.1).val) fun r => ([rv (true, B8) r], [])
theorem Agl : Fn Tryz.prog 230 .plain Z2 := mkF [] trivial Tryz.func230 (by kernel_rfl) (by kernel_rfl) (by kernel_rfl) 0 fun d => by kernel_rfl
def Aly : Au := As [(true, [.int .i64, .sl 3 [.int .i64]])] (fun d => (Ayc d.1).val) fun r => ([rv (true, [.int .i64, .sl 3 [.int .i64]]) r], [])
theorem Agm : Fn Tryz.prog 427 .plain Aly := mkF [] trivial Tryz.func427 (by kernel_rfl) (by kernel_rfl) (by kernel_rfl) 0 fun d => by kernel_rfl
def Ra : Au := As [(true, h_6)] (fun d => (Aj8 d.1).val) fun r => ([rv (true, h_6) r], [])
theorem Tz : Fn Tryz.prog 390 .plain Ra := mkF [(427, .plain, Aly)] ⟨Agm, trivial⟩ Tryz.func390 (by kernel_rfl) (by kernel_rfl) (by kernel_rfl) 0 fun d => by kernel_rfl
def A4e : Au := As [(true, h_6), (false, [.bool])] (fun d => (Ao0 d.1 d.2.1).val) fun r => ([rv (true, h_6) r], [])
theorem Bfc : Fn Tryz.prog 391 .plain A4e := mkF [(390, .plain, Ra)] ⟨Tz, trivial⟩ Tryz.func391 (by kernel_rfl) (by kernel_rfl) (by kernel_rfl) 0 fun d => by kernel_rfl
def T0 : Au := As [(true, D4)] (fun d => (Afg d.1).val) fun r => ([rv (true, D4) r], [])
theorem Acb : Fn Tryz.prog 310 .plain T0 := mkF [(390, .plain, Ra), (391, .plain, A4e)] ⟨Tz, Bfc, trivial⟩ Tryz.func310 (by kernel_rfl) (by kernel_rfl) (by kernel_rfl) 0 fun d => by kernel_rfl
def At4 : Au := As [(true, Fk)] (fun d => (Afh d.1).val) fun r => ([rv (true, Fk) r], [])
theorem A70 : Fn Tryz.prog 171 .plain At4 := mkF [(230, .plain, Z2), (310, .plain, T0)] ⟨Agl, Acb, trivial⟩ Tryz.func171 (by kernel_rfl) (by kernel_rfl) (by kernel_rfl) 0 fun d => by kernel_rfl
def Cp : Au := As [(false, [.int .i64]), (false, [.int .i64]), (false, [.int .i64])] (fun d => (Avt d.1 d.2.1 d.2.2.1).val) fun r => ([rv (false, [.bool]) r], [])
theorem Bx : Fn Tryz.prog 94 .plain Cp := mkF [] trivial Tryz.func94 (by kernel_rfl) (by kernel_rfl) (by kernel_rfl) 0 fun d => by kernel_rfl
def Ad7 : Au := As [(false, [.sl 5 [.int .u8]])] (fun d => (Ao2 d.1).val) fun r => ([rv (false, [.bool]) r], [])
theorem Alz : Fn Tryz.prog 130 .plain Ad7 := mkF [(94, .plain, Cp)] ⟨Bx, trivial⟩ Tryz.func130 (by kernel_rfl) (by kernel_rfl) (by kernel_rfl) 0 fun d => by kernel_rfl
def Ayk : Au := As [(true, [.int .i64, .int .i64])] (fun d => (Aj9 d.1).val) fun r => ([rv (false, [.bool]) r], [])
theorem Bb0 : Fn Tryz.prog 95 .plain Ayk := mkF [(94, .plain, Cp)] ⟨Bx, trivial⟩ Tryz.func95 (by kernel_rfl) (by kernel_rfl) (by kernel_rfl) 0 fun d => by kernel_rfl
def At5 : Au := As [(true, h_1)] (fun d => (Afj d.1).val) fun r => ([rv (false, [.bool]) r], [])
theorem A71 : Fn Tryz.prog 192 .plain At5 := mkF [(94, .plain, Cp)] ⟨Bx, trivial⟩ Tryz.func192 (by kernel_rfl) (by kernel_rfl) (by kernel_rfl) 0 fun d => by kernel_rfl
def Ahx : Au := As [(true, B8)] (fun d => (R3 d.1).val) fun r => ([rv (false, [.bool]) r], [])
theorem Ayl : Fn Tryz.prog 193 .plain Ahx := mkF [] trivial Tryz.func193 (by kernel_rfl) (by kernel_rfl) (by kernel_rfl) 0 fun d => by kernel_rfl
def Agn : Au := As [(true, h_6)] (fun d => (Afk d.1).val) fun r => ([rv (false, [.bool]) r], [])
theorem Apn : Fn Tryz.prog 327 .plain Agn := mkF [] trivial Tryz.func327 (by kernel_rfl) (by kernel_rfl) (by kernel_rfl) 0 fun d => by kernel_rfl
def An6 : Au := As [(true, D4)] (fun d => (U6 d.1).val) fun r => ([rv (false, [.bool]) r], [])
theorem A2i : Fn Tryz.prog 194 .plain An6 := mkF [(327, .plain, Agn)] ⟨Apn, trivial⟩ Tryz.func194 (by kernel_rfl) (by kernel_rfl) (by kernel_rfl) 0 fun d => by kernel_rfl
def Apo : Au := As [(true, [.int .i64, .sl 3 [.int .i64]]), (false, [.int .i64])] (fun d => (Ao3 d.1 d.2.1).val) fun r => ([rv (false, [.bool]) r], [])
theorem Z3 : Fn Tryz.prog 432 .plain Apo := mkF [] trivial Tryz.func432 (by kernel_rfl) (by kernel_rfl) (by kernel_rfl) 0 fun d => by kernel_rfl
def App : List (Bool × List Sh) := [(true, [.int .i64, .sl 3 [.int .i64]])]
def A4f (r : (Bool × Unit)) : List RV × List RV := ([rv (false, [.bool]) r], [])
def Ip : Fns := [(94, .plain, Cp), (432, .plain, Apo)]
def Apq : Au := As App (fun d => (Ue d.1).val) A4f
def Apr : Sk := ⟨[(1, .box 1 0), (4, .v false [(.int .i64, .nil)])], [(1, [(.int .i64, .nil), (.sl 3 [.int .i64], .ro)])], []⟩
def Aps : List (Ex × Sk) := [(.ret, ⟨[(2, .v false [(.bool, .nil)])], [], []⟩), ((.exit 2), ⟨[], [], []⟩)]
def At6 : Sk := ⟨[(1, .box 1 0), (3, .v false [(.int .i64, .nil)])], [(1, [(.int .i64, .nil), (.sl 3 [.int .i64], .ro)])], []⟩
def At7 : List (Ex × Sk) := [(.ret, ⟨[(2, .v false [(.bool, .nil)])], [], []⟩), ((.exit 0), ⟨[(1, .box 1 0)], [(1, [(.int .i64, .nil), (.sl 3 [.int .i64], .ro)])], []⟩)]
def Uv : Bp := fun i st => cond (Nat.beq i 4) (lam At6 5000000 At7 I6 st) <| cond (Nat.beq i 11) (lam Apr 12000000 Aps Fz st) <| .fail
theorem A72 : ∀ d, bod ⟨A3 tys, A1 Ip, Av Ip, 3, 4⟩ 0 Tryz.f400.ntmps Uv (Ai Tryz.f400 0) At6 5000000 At7 d = I6 d := fun d => by kernel_rfl
theorem A73 (cx : Cx) (hp : cx.pin.length ≤ 0) : Bh Tryz.prog cx Tryz.f400.ntmps Uv (Ai Tryz.f400 0) := Be (Aq A6 Aw (show A5 Tryz.prog Ip from ⟨Bx, Z3, trivial⟩)) hp (Ax (by kernel_rfl : Ar (Ai Tryz.f400 0) = []) trivial) (by kernel_rfl) A72
theorem A54 : ∀ d, bod ⟨A3 tys, A1 Ip, Av Ip, 3, 4⟩ 0 Tryz.f400.ntmps Uv (Ai Tryz.f400 1) Apr 12000000 Aps d = Fz d := fun d => by kernel_rfl
theorem A55 (cx : Cx) (hp : cx.pin.length ≤ 0) : Bh Tryz.prog cx Tryz.f400.ntmps Uv (Ai Tryz.f400 1) := Be (Aq A6 Aw (show A5 Tryz.prog Ip from ⟨Bx, Z3, trivial⟩)) hp (Ax (by kernel_rfl : Ar (Ai Tryz.f400 1) = []) trivial) (by kernel_rfl) A54
theorem Bhz : ∀ d, Bs ⟨A3 tys, A1 Ip, Av Ip, 3, 4⟩ 0 Uv Tryz.f400 .plain (mkA App d) = (Ue d.1).run fun r => some (A4f r) := fun d => by kernel_rfl
theorem Aym : Fn Tryz.prog 400 .plain Apq := Bu (Aq A6 Aw (show A5 Tryz.prog Ip from ⟨Bx, Z3, trivial⟩)) Tryz.func400 (by kernel_rfl) (by kernel_rfl) (fun cx b hp hb => Ax (by kernel_rfl : Ar (Tryz.f400.body.getD .skip) = [Ai Tryz.f400 0, Ai Tryz.f400 1]) ⟨A73 cx hp, A55 cx hp, trivial⟩ b hb) (R := (Bool × Unit)) (T := fun (d : Bw App) => Ue d.1) Bhz
def Al0 : Au := As [(true, h_6)] (fun d => (Avu d.1).val) fun r => ([rv (false, [.bool]) r], [])
theorem Apt : Fn Tryz.prog 328 .plain Al0 := mkF [(94, .plain, Cp), (400, .plain, Apq)] ⟨Bx, Aym, trivial⟩ Tryz.func328 (by kernel_rfl) (by kernel_rfl) (by kernel_rfl) 0 fun d => by kernel_rfl
def Rb : Au := As [(true, D4)] (fun d => (Akb d.1).val) fun r => ([rv (false, [.bool]) r], [])
theorem T1 : Fn Tryz.prog 195 .plain Rb := mkF [(94, .plain, Cp), (328, .plain, Al0), (327, .plain, Agn)] ⟨Bx, Apt, Apn, trivial⟩ Tryz.func195 (by kernel_rfl) (by kernel_rfl) (by kernel_rfl) 0 fun d => by kernel_rfl
def Kz : Au := As [(false, [.int .i64])] (fun d => (Akc d.1).val) fun r => ([rv (false, [.bool]) r], [])
theorem Jd : Fn Tryz.prog 114 .plain Kz := mkF [(94, .plain, Cp)] ⟨Bx, trivial⟩ Tryz.func114 (by kernel_rfl) (by kernel_rfl) (by kernel_rfl) 0 fun d => by kernel_rfl
def Z4 : Au := As [(false, [.int .i64]), (false, [.int .i64])] (fun d => (Akd d.1 d.2.1).val) fun r => ([rv (false, [.bool]) r], [])
theorem T2 : Fn Tryz.prog 329 .plain Z4 := mkF [] trivial Tryz.func329 (by kernel_rfl) (by kernel_rfl) (by kernel_rfl) 0 fun d => by kernel_rfl
def Lj : Au := As [(true, B8)] (fun d => (Afl d.1).val) fun r => ([rv (false, [.bool]) r], [])
theorem Mm : Fn Tryz.prog 196 .plain Lj := mkF [(114, .plain, Kz), (94, .plain, Cp), (329, .plain, Z4)] ⟨Jd, Bx, T2, trivial⟩ Tryz.func196 (by kernel_rfl) (by kernel_rfl) (by kernel_rfl) 0 fun d => by kernel_rfl
def Z5 : Au := As [(false, [.sl 5 [.int .u8]]), (false, [.sl 5 [.int .u8]])] (fun d => (Ayd d.1 d.2.1).val) fun r => ([rv (false, [.bool]) r], [])
theorem Ago : Fn Tryz.prog 112 .plain Z5 := mkF [] trivial Tryz.func112 (by kernel_rfl) (by kernel_rfl) (by kernel_rfl) 0 fun d => by kernel_rfl
def Apu : Au := As [(true, Fk)] (fun d => (Aat d.1).val) fun r => ([rv (false, [.bool]) r], [])
theorem A56 : Fn Tryz.prog 44 .plain Apu := mkF [(94, .plain, Cp), (130, .plain, Ad7), (95, .plain, Ayk), (192, .plain, At5), (193, .plain, Ahx), (194, .plain, An6), (195, .plain, Rb), (196, .plain, Lj), (112, .plain, Z5)] ⟨Bx, Alz, Bb0, A71, Ayl, A2i, T1, Mm, Ago, trivial⟩ Tryz.func44 (by kernel_rfl) (by kernel_rfl) (by kernel_rfl) 0 fun d => by kernel_rfl
def Av8 : List (Bool × List Sh) := [(false, [.sl 5 [.int .u8]]), (false, [.int .i64]), (false, [.int .i64])]
def A74 (r : (YBs)) : List RV × List RV := ([rv (false, [.sl 5 [.int .u8]]) r], [])
def Sq : Fns := []
def Sr : Au := As Av8 (fun d => (Aav d.1 d.2.1 d.2.2.1).val) A74
def Ayn : Sk := ⟨[(1, .v false [(.int .i64, .nil)]), (7, .v false [(.sl 5 [.int .u8], (.own 6000000))]), (8, .v false [(.int .i64, .nil)])], [], [6000000]⟩
def Ayo : List (Ex × Sk) := [((.exit 0), ⟨[(7, .v false [(.sl 5 [.int .u8], (.own 6000000))])], [], [6000000]⟩)]
def Av9 : Bp := fun i st => cond (Nat.beq i 5) (lam Ayn 6000000 Ayo M7 st) <| .fail
theorem Bb1 : ∀ d, bod ⟨A3 tys, A1 Sq, Av Sq, 3, 4⟩ 0 Tryz.f282.ntmps Av9 (Ai Tryz.f282 0) Ayn 6000000 Ayo d = M7 d := fun d => by kernel_rfl
theorem Bb2 (cx : Cx) (hp : cx.pin.length ≤ 0) : Bh Tryz.prog cx Tryz.f282.ntmps Av9 (Ai Tryz.f282 0) := Be (Aq A6 Aw (show A5 Tryz.prog Sq from trivial)) hp (Ax (by kernel_rfl : Ar (Ai Tryz.f282 0) = []) trivial) (by kernel_rfl) Bb1
theorem Bkh : ∀ d, Bs ⟨A3 tys, A1 Sq, Av Sq, 3, 4⟩ 0 Av9 Tryz.f282 .plain (mkA Av8 d) = (Aav d.1 d.2.1 d.2.2.1).run fun r => some (A74 r) := fun d => by kernel_rfl
theorem Mn : Fn Tryz.prog 282 .plain Sr := Bu (Aq A6 Aw (show A5 Tryz.prog Sq from trivial)) Tryz.func282 (by kernel_rfl) (by kernel_rfl) (fun cx b hp hb => Ax (by kernel_rfl : Ar (Tryz.f282.body.getD .skip) = [Ai Tryz.f282 0]) ⟨Bb2 cx hp, trivial⟩ b hb) (R := (YBs)) (T := fun (d : Bw Av8) => Aav d.1 d.2.1 d.2.2.1) Bkh
def A2j : List (Bool × List Sh) := [(false, [.int .i64])]
def Bdv (r : (YBs)) : List RV × List RV := ([rv (false, [.sl 5 [.int .u8]]) r], [])
def Aae : Fns := [(282, .plain, Sr)]
def Bdw : Au := As A2j (fun d => (Ahm d.1).val) Bdv
def A4g : Sk := ⟨[(0, .v false [(.int .i64, .nil)]), (3, .v false [(.sl 5 [.int .u8], (.own 5000000))])], [], [5000000]⟩
def A4h : List (Ex × Sk) := [((.exit 0), ⟨[(0, .v false [(.int .i64, .nil)]), (3, .v false [(.sl 5 [.int .u8], (.own 5000000))])], [], [5000000]⟩)]
def A2k : Bp := fun i st => cond (Nat.beq i 4) (lam A4g 5000000 A4h Adx st) <| .fail
theorem Bfd : ∀ d, bod ⟨A3 tys, A1 Aae, Av Aae, 3, 4⟩ 0 Tryz.f444.ntmps A2k (Ai Tryz.f444 0) A4g 5000000 A4h d = Adx d := fun d => by kernel_rfl
theorem Bfe (cx : Cx) (hp : cx.pin.length ≤ 0) : Bh Tryz.prog cx Tryz.f444.ntmps A2k (Ai Tryz.f444 0) := Be (Aq A6 Aw (show A5 Tryz.prog Aae from ⟨Mn, trivial⟩)) hp (Ax (by kernel_rfl : Ar (Ai Tryz.f444 0) = []) trivial) (by kernel_rfl) Bfd
theorem Bmi : ∀ d, Bs ⟨A3 tys, A1 Aae, Av Aae, 3, 4⟩ 0 A2k Tryz.f444 .plain (mkA A2j d) = (Ahm d.1).run fun r => some (Bdv r) := fun d => by kernel_rfl
theorem A75 : Fn Tryz.prog 444 .plain Bdw := Bu (Aq A6 Aw (show A5 Tryz.prog Aae from ⟨Mn, trivial⟩)) Tryz.func444 (by kernel_rfl) (by kernel_rfl) (fun cx b hp hb => Ax (by kernel_rfl : Ar (Tryz.f444.body.getD .skip) = [Ai Tryz.f444 0]) ⟨Bfe cx hp, trivial⟩ b hb) (R := (YBs)) (T := fun (d : Bw A2j) => Ahm d.1) Bmi
def A4i : Au := As [] (fun d => (A38 ).val) fun r => ([rv (false, [.sl 3 [.int .i64]]) r], [])
theorem Ayp : Fn Tryz.prog 445 .plain A4i := mkF [] trivial Tryz.func445 (by kernel_rfl) (by kernel_rfl) (by kernel_rfl) 0 fun d => by kernel_rfl
def Agp : List (Bool × List Sh) := [(false, [.sl 3 [.int .i64]])]
def At8 (r : (Bool × Unit)) : List RV × List RV := ([rv (false, [.bool]) r], [])
def Lk : Fns := [(94, .plain, Cp)]
def At9 : Au := As Agp (fun d => (Od d.1).val) At8
def An7 : Sk := ⟨[(0, .v false [(.sl 3 [.int .i64], .ro)]), (3, .v false [(.int .i64, .nil)])], [], []⟩
def An8 : List (Ex × Sk) := [(.ret, ⟨[(2, .v false [(.bool, .nil)])], [], []⟩), ((.exit 0), ⟨[(0, .v false [(.sl 3 [.int .i64], .ro)])], [], []⟩)]
def Agq : Bp := fun i st => cond (Nat.beq i 2) (lam An7 3000000 An8 H3 st) <| .fail
theorem A2l : ∀ d, bod ⟨A3 tys, A1 Lk, Av Lk, 3, 4⟩ 0 Tryz.f453.ntmps Agq (Ai Tryz.f453 0) An7 3000000 An8 d = H3 d := fun d => by kernel_rfl
theorem A2m (cx : Cx) (hp : cx.pin.length ≤ 0) : Bh Tryz.prog cx Tryz.f453.ntmps Agq (Ai Tryz.f453 0) := Be (Aq A6 Aw (show A5 Tryz.prog Lk from ⟨Bx, trivial⟩)) hp (Ax (by kernel_rfl : Ar (Ai Tryz.f453 0) = []) trivial) (by kernel_rfl) A2l
theorem Bb3 : ∀ d, Bs ⟨A3 tys, A1 Lk, Av Lk, 3, 4⟩ 0 Agq Tryz.f453 .plain (mkA Agp d) = (Od d.1).run fun r => some (At8 r) := fun d => by kernel_rfl
theorem Acc : Fn Tryz.prog 453 .plain At9 := Bu (Aq A6 Aw (show A5 Tryz.prog Lk from ⟨Bx, trivial⟩)) Tryz.func453 (by kernel_rfl) (by kernel_rfl) (fun cx b hp hb => Ax (by kernel_rfl : Ar (Tryz.f453.body.getD .skip) = [Ai Tryz.f453 0]) ⟨A2m cx hp, trivial⟩ b hb) (R := (Bool × Unit)) (T := fun (d : Bw Agp) => Od d.1) Bb3
def Bdx : Au := As [] (fun d => (Bdt ).val) fun r => ([rv (false, [.sl 3 [.int .i64]]) r], [])
theorem Awa : Fn Tryz.prog 454 .plain Bdx := mkF [] trivial Tryz.func454 (by kernel_rfl) (by kernel_rfl) (by kernel_rfl) 0 fun d => by kernel_rfl
def Awb : List (Bool × List Sh) := [(false, [.sl 5 [.int .u8]]), (false, [.int .i64]), (false, [.int .i64])]
def A76 (r : (YI) × (YI) × (Bool × Unit)) : List RV × List RV := ([rv (false, [.int .i64]) r.1, rv (false, [.int .i64]) r.2.1, rv (false, [.bool]) r.2.2], [])
def Ss : Fns := []
def A77 : Au := As Awb (fun d => (Aaw d.1 d.2.1 d.2.2.1).val) A76
def Ayq : Sk := ⟨[(0, .v false [(.sl 5 [.int .u8], .ro)]), (1, .v false [(.int .i64, .nil)]), (2, .v false [(.int .i64, .nil)]), (9, .v false [(.int .i64, .nil)]), (10, .v false [(.int .i64, .nil)])], [], []⟩
def Ayr : List (Ex × Sk) := [((.exit 0), ⟨[(1, .v false [(.int .i64, .nil)]), (2, .v false [(.int .i64, .nil)]), (9, .v false [(.int .i64, .nil)])], [], []⟩)]
def Awc : Bp := fun i st => cond (Nat.beq i 5) (lam Ayq 6000000 Ayr Kr st) <| .fail
theorem Bb4 : ∀ d, bod ⟨A3 tys, A1 Ss, Av Ss, 3, 4⟩ 0 Tryz.f276.ntmps Awc (Ai Tryz.f276 0) Ayq 6000000 Ayr d = Kr d := fun d => by kernel_rfl
theorem Bb5 (cx : Cx) (hp : cx.pin.length ≤ 0) : Bh Tryz.prog cx Tryz.f276.ntmps Awc (Ai Tryz.f276 0) := Be (Aq A6 Aw (show A5 Tryz.prog Ss from trivial)) hp (Ax (by kernel_rfl : Ar (Ai Tryz.f276 0) = []) trivial) (by kernel_rfl) Bb4
theorem Bki : ∀ d, Bs ⟨A3 tys, A1 Ss, Av Ss, 3, 4⟩ 0 Awc Tryz.f276 .plain (mkA Awb d) = (Aaw d.1 d.2.1 d.2.2.1).run fun r => some (A76 r) := fun d => by kernel_rfl
theorem Apv : Fn Tryz.prog 276 .plain A77 := Bu (Aq A6 Aw (show A5 Tryz.prog Ss from trivial)) Tryz.func276 (by kernel_rfl) (by kernel_rfl) (fun cx b hp hb => Ax (by kernel_rfl : Ar (Tryz.f276.body.getD .skip) = [Ai Tryz.f276 0]) ⟨Bb5 cx hp, trivial⟩ b hb) (R := (YI) × (YI) × (Bool × Unit)) (T := fun (d : Bw Awb) => Aaw d.1 d.2.1 d.2.2.1) Bki
def A2n : Au := As [(false, [.int .i64]), (false, [.int .i64])] (fun d => (A18 d.1 d.2.1).val) fun r => ([rv (false, [.int .i64]) r], [])
theorem Su : Fn Tryz.prog 456 .plain A2n := mkF [] trivial Tryz.func456 (by kernel_rfl) (by kernel_rfl) (by kernel_rfl) 0 fun d => by kernel_rfl
def Acd : List (Bool × List Sh) := [(false, [.sl 5 [.int .u8]])]
def Apw (r : ((List YI) × Unit)) : List RV × List RV := ([rv (false, [.sl 3 [.int .i64]]) r], [])
def Ey : Fns := [(276, .plain, A77), (456, .plain, A2n)]
def Apx : Au := As Acd (fun d => (L0 d.1).val) Apw
def Ad8 : Sk := ⟨[(3, .v false [(.sl 3 [.int .i64], (.own 11000000))]), (8, .v false [(.int .i64, .nil)])], [], [11000000]⟩
def Ad9 : List (Ex × Sk) := [((.exit 2), ⟨[(3, .v false [(.sl 3 [.int .i64], (.own 11000000))])], [], [11000000]⟩)]
def Ahy : Sk := ⟨[(0, .v false [(.sl 5 [.int .u8], .ro)]), (3, .v false [(.sl 3 [.int .i64], (.own 6000000))]), (4, .v false [(.int .i64, .nil)])], [], [6000000]⟩
def Ahz : List (Ex × Sk) := [((.exit 0), ⟨[(3, .v false [(.sl 3 [.int .i64], (.own 6000000))])], [], [6000000]⟩)]
def Mo : Bp := fun i st => cond (Nat.beq i 5) (lam Ahy 6000000 Ahz Gv st) <| cond (Nat.beq i 10) (lam Ad8 11000000 Ad9 F3 st) <| .fail
theorem Ays : ∀ d, bod ⟨A3 tys, A1 Ey, Av Ey, 3, 4⟩ 0 Tryz.f455.ntmps Mo (Ai Tryz.f455 0) Ahy 6000000 Ahz d = Gv d := fun d => by kernel_rfl
theorem Ayt (cx : Cx) (hp : cx.pin.length ≤ 0) : Bh Tryz.prog cx Tryz.f455.ntmps Mo (Ai Tryz.f455 0) := Be (Aq A6 Aw (show A5 Tryz.prog Ey from ⟨Apv, Su, trivial⟩)) hp (Ax (by kernel_rfl : Ar (Ai Tryz.f455 0) = []) trivial) (by kernel_rfl) Ays
theorem Awd : ∀ d, bod ⟨A3 tys, A1 Ey, Av Ey, 3, 4⟩ 0 Tryz.f455.ntmps Mo (Ai Tryz.f455 1) Ad8 11000000 Ad9 d = F3 d := fun d => by kernel_rfl
theorem Awe (cx : Cx) (hp : cx.pin.length ≤ 0) : Bh Tryz.prog cx Tryz.f455.ntmps Mo (Ai Tryz.f455 1) := Be (Aq A6 Aw (show A5 Tryz.prog Ey from ⟨Apv, Su, trivial⟩)) hp (Ax (by kernel_rfl : Ar (Ai Tryz.f455 1) = []) trivial) (by kernel_rfl) Awd
theorem A78 : ∀ d, Bs ⟨A3 tys, A1 Ey, Av Ey, 3, 4⟩ 0 Mo Tryz.f455 .plain (mkA Acd d) = (L0 d.1).run fun r => some (Apw r) := fun d => by kernel_rfl
theorem Vh : Fn Tryz.prog 455 .plain Apx := Bu (Aq A6 Aw (show A5 Tryz.prog Ey from ⟨Apv, Su, trivial⟩)) Tryz.func455 (by kernel_rfl) (by kernel_rfl) (fun cx b hp hb => Ax (by kernel_rfl : Ar (Tryz.f455.body.getD .skip) = [Ai Tryz.f455 0, Ai Tryz.f455 1]) ⟨Ayt cx hp, Awe cx hp, trivial⟩ b hb) (R := ((List YI) × Unit)) (T := fun (d : Bw Acd) => L0 d.1) A78
def Ace : List (Bool × List Sh) := [(false, [.sl 3 [.int .i64]]), (false, [.sl 5 [.int .u8]])]
def Apy (r : ((List YI) × Unit)) : List RV × List RV := ([rv (false, [.sl 3 [.int .i64]]) r], [])
def Ez : Fns := [(453, .plain, At9), (454, .plain, Bdx), (455, .plain, Apx), (456, .plain, A2n)]
def Apz : Au := As Ace (fun d => (L3 d.1 d.2.1).val) Apy
def Aea : Sk := ⟨[(0, .v false [(.sl 3 [.int .i64], .ro)]), (5, .v false [(.sl 3 [.int .i64], (.own 23000000))]), (19, .v false [(.sl 3 [.int .i64], (.own 23000001))]), (20, .v false [(.int .i64, .nil)])], [], [23000000, 23000001]⟩
def Aeb : List (Ex × Sk) := [((.exit 2), ⟨[(5, .v false [(.sl 3 [.int .i64], (.own 23000000))])], [], [23000000]⟩)]
def Ah0 : Sk := ⟨[(0, .v false [(.sl 3 [.int .i64], .ro)]), (5, .v false [(.sl 3 [.int .i64], (.own 9000000))]), (6, .v false [(.sl 3 [.int .i64], (.own 9000001))]), (7, .v false [(.sl 3 [.int .i64], (.own 9000002))]), (8, .v false [(.int .i64, .nil)]), (9, .v false [(.int .i64, .nil)]), (10, .v false [(.int .i64, .nil)]), (11, .v false [(.int .i64, .nil)]), (12, .v false [(.int .i64, .nil)]), (13, .v false [(.int .i64, .nil)]), (14, .v false [(.int .i64, .nil)]), (15, .v false [(.int .i64, .nil)]), (16, .v false [(.int .i64, .nil)])], [], [9000000, 9000001, 9000002]⟩
def Ah1 : List (Ex × Sk) := [((.exit 0), ⟨[(0, .v false [(.sl 3 [.int .i64], .ro)]), (5, .v false [(.sl 3 [.int .i64], (.own 9000000))]), (8, .v false [(.int .i64, .nil)]), (9, .v false [(.int .i64, .nil)]), (10, .v false [(.int .i64, .nil)]), (11, .v false [(.int .i64, .nil)]), (12, .v false [(.int .i64, .nil)]), (13, .v false [(.int .i64, .nil)]), (14, .v false [(.int .i64, .nil)]), (15, .v false [(.int .i64, .nil)])], [], [9000000]⟩)]
def Mp : Bp := fun i st => cond (Nat.beq i 8) (lam Ah0 9000000 Ah1 Ff st) <| cond (Nat.beq i 22) (lam Aea 23000000 Aeb Eu st) <| .fail
theorem Ayu : ∀ d, bod ⟨A3 tys, A1 Ez, Av Ez, 3, 4⟩ 0 Tryz.f446.ntmps Mp (Ai Tryz.f446 0) Ah0 9000000 Ah1 d = Ff d := fun d => by kernel_rfl
theorem Ayv (cx : Cx) (hp : cx.pin.length ≤ 0) : Bh Tryz.prog cx Tryz.f446.ntmps Mp (Ai Tryz.f446 0) := Be (Aq A6 Aw (show A5 Tryz.prog Ez from ⟨Acc, Awa, Vh, Su, trivial⟩)) hp (Ax (by kernel_rfl : Ar (Ai Tryz.f446 0) = []) trivial) (by kernel_rfl) Ayu
theorem Awf : ∀ d, bod ⟨A3 tys, A1 Ez, Av Ez, 3, 4⟩ 0 Tryz.f446.ntmps Mp (Ai Tryz.f446 1) Aea 23000000 Aeb d = Eu d := fun d => by kernel_rfl
theorem Awg (cx : Cx) (hp : cx.pin.length ≤ 0) : Bh Tryz.prog cx Tryz.f446.ntmps Mp (Ai Tryz.f446 1) := Be (Aq A6 Aw (show A5 Tryz.prog Ez from ⟨Acc, Awa, Vh, Su, trivial⟩)) hp (Ax (by kernel_rfl : Ar (Ai Tryz.f446 1) = []) trivial) (by kernel_rfl) Awf
theorem A79 : ∀ d, Bs ⟨A3 tys, A1 Ez, Av Ez, 3, 4⟩ 0 Mp Tryz.f446 .plain (mkA Ace d) = (L3 d.1 d.2.1).run fun r => some (Apy r) := fun d => by kernel_rfl
theorem An9 : Fn Tryz.prog 446 .plain Apz := Bu (Aq A6 Aw (show A5 Tryz.prog Ez from ⟨Acc, Awa, Vh, Su, trivial⟩)) Tryz.func446 (by kernel_rfl) (by kernel_rfl) (fun cx b hp hb => Ax (by kernel_rfl : Ar (Tryz.f446.body.getD .skip) = [Ai Tryz.f446 0, Ai Tryz.f446 1]) ⟨Ayv cx hp, Awg cx hp, trivial⟩ b hb) (R := ((List YI) × Unit)) (T := fun (d : Bw Ace) => L3 d.1 d.2.1) A79
def Ap0 : List (Bool × List Sh) := [(false, [.sl 3 [.int .i64]])]
def A4j (r : (YBs)) : List RV × List RV := ([rv (false, [.sl 5 [.int .u8]]) r], [])
def Pr : Fns := [(282, .plain, Sr)]
def A4k : Au := As Ap0 (fun d => (Uf d.1).val) A4j
def Aua : Sk := ⟨[(0, .v false [(.sl 3 [.int .i64], .ro)]), (3, .v false [(.sl 5 [.int .u8], (.own 4000000))]), (4, .v false [(.int .i64, .nil)])], [], [4000000]⟩
def Aub : List (Ex × Sk) := [((.exit 0), ⟨[(3, .v false [(.sl 5 [.int .u8], (.own 4000000))])], [], [4000000]⟩)]
def Ap1 : Bp := fun i st => cond (Nat.beq i 3) (lam Aua 4000000 Aub I8 st) <| .fail
theorem A8a : ∀ d, bod ⟨A3 tys, A1 Pr, Av Pr, 3, 4⟩ 0 Tryz.f447.ntmps Ap1 (Ai Tryz.f447 0) Aua 4000000 Aub d = I8 d := fun d => by kernel_rfl
theorem A8b (cx : Cx) (hp : cx.pin.length ≤ 0) : Bh Tryz.prog cx Tryz.f447.ntmps Ap1 (Ai Tryz.f447 0) := Be (Aq A6 Aw (show A5 Tryz.prog Pr from ⟨Mn, trivial⟩)) hp (Ax (by kernel_rfl : Ar (Ai Tryz.f447 0) = []) trivial) (by kernel_rfl) A8a
theorem Bh0 : ∀ d, Bs ⟨A3 tys, A1 Pr, Av Pr, 3, 4⟩ 0 Ap1 Tryz.f447 .plain (mkA Ap0 d) = (Uf d.1).run fun r => some (A4j r) := fun d => by kernel_rfl
theorem Ayw : Fn Tryz.prog 447 .plain A4k := Bu (Aq A6 Aw (show A5 Tryz.prog Pr from ⟨Mn, trivial⟩)) Tryz.func447 (by kernel_rfl) (by kernel_rfl) (fun cx b hp hb => Ax (by kernel_rfl : Ar (Tryz.f447.body.getD .skip) = [Ai Tryz.f447 0]) ⟨A8b cx hp, trivial⟩ b hb) (R := (YBs)) (T := fun (d : Bw Ap0) => Uf d.1) Bh0
def A2o : List (Bool × List Sh) := [(false, [.sl 5 [.int .u8]])]
def Bdy (r : (YBs)) : List RV × List RV := ([rv (false, [.sl 5 [.int .u8]]) r], [])
def Aaf : Fns := [(444, .plain, Bdw), (445, .plain, A4i), (446, .plain, Apz), (447, .plain, A4k)]
def A2p : Au := As A2o (fun d => (Ahn d.1).val) Bdy
def A4l : Sk := ⟨[(3, .v false [(.sl 5 [.int .u8], (.own 7000000))]), (4, .v false [(.sl 3 [.int .i64], (.own 7000001))]), (5, .v false [(.int .i64, .nil)])], [], [7000000, 7000001]⟩
def A4m : List (Ex × Sk) := [((.exit 0), ⟨[(4, .v false [(.sl 3 [.int .i64], (.own 7000000))])], [], [7000000]⟩)]
def A2q : Bp := fun i st => cond (Nat.beq i 6) (lam A4l 7000000 A4m L4 st) <| .fail
theorem Bff : ∀ d, bod ⟨A3 tys, A1 Aaf, Av Aaf, 3, 4⟩ 0 Tryz.f422.ntmps A2q (Ai Tryz.f422 0) A4l 7000000 A4m d = L4 d := fun d => by kernel_rfl
theorem Bfg (cx : Cx) (hp : cx.pin.length ≤ 0) : Bh Tryz.prog cx Tryz.f422.ntmps A2q (Ai Tryz.f422 0) := Be (Aq A6 Aw (show A5 Tryz.prog Aaf from ⟨A75, Ayp, An9, Ayw, trivial⟩)) hp (Ax (by kernel_rfl : Ar (Ai Tryz.f422 0) = []) trivial) (by kernel_rfl) Bff
theorem Bmj : ∀ d, Bs ⟨A3 tys, A1 Aaf, Av Aaf, 3, 4⟩ 0 A2q Tryz.f422 .plain (mkA A2o d) = (Ahn d.1).run fun r => some (Bdy r) := fun d => by kernel_rfl
theorem Al1 : Fn Tryz.prog 422 .plain A2p := Bu (Aq A6 Aw (show A5 Tryz.prog Aaf from ⟨A75, Ayp, An9, Ayw, trivial⟩)) Tryz.func422 (by kernel_rfl) (by kernel_rfl) (fun cx b hp hb => Ax (by kernel_rfl : Ar (Tryz.f422.body.getD .skip) = [Ai Tryz.f422 0]) ⟨Bfg cx hp, trivial⟩ b hb) (R := (YBs)) (T := fun (d : Bw A2o) => Ahn d.1) Bmj
def Acf : List (Bool × List Sh) := [(false, [.sl 5 [.int .u8]])]
def Ap2 (r : (YBs)) : List RV × List RV := ([rv (false, [.sl 5 [.int .u8]]) r], [])
def Jw : Fns := [(422, .plain, A2p)]
def Ap3 : Au := As Acf (fun d => (L5 d.1).val) Ap2
def Ah2 : Sk := ⟨[(3, .v false [(.sl 5 [.int .u8], (.own 7000000))])], [], [7000000]⟩
def Ah3 : List (Ex × Sk) := [((.exit 0), ⟨[(3, .v false [(.sl 5 [.int .u8], (.own 7000000))])], [], [7000000]⟩)]
def Acg : Bp := fun i st => cond (Nat.beq i 6) (lam Ah2 7000000 Ah3 Jp st) <| .fail
theorem Ayx : ∀ d, bod ⟨A3 tys, A1 Jw, Av Jw, 3, 4⟩ 0 Tryz.f421.ntmps Acg (Ai Tryz.f421 0) Ah2 7000000 Ah3 d = Jp d := fun d => by kernel_rfl
theorem Ayy (cx : Cx) (hp : cx.pin.length ≤ 0) : Bh Tryz.prog cx Tryz.f421.ntmps Acg (Ai Tryz.f421 0) := Be (Aq A6 Aw (show A5 Tryz.prog Jw from ⟨Al1, trivial⟩)) hp (Ax (by kernel_rfl : Ar (Ai Tryz.f421 0) = []) trivial) (by kernel_rfl) Ayx
theorem A8c : ∀ d, Bs ⟨A3 tys, A1 Jw, Av Jw, 3, 4⟩ 0 Acg Tryz.f421 .plain (mkA Acf d) = (L5 d.1).run fun r => some (Ap2 r) := fun d => by kernel_rfl
theorem Aoa : Fn Tryz.prog 421 .plain Ap3 := Bu (Aq A6 Aw (show A5 Tryz.prog Jw from ⟨Al1, trivial⟩)) Tryz.func421 (by kernel_rfl) (by kernel_rfl) (fun cx b hp hb => Ax (by kernel_rfl : Ar (Tryz.f421.body.getD .skip) = [Ai Tryz.f421 0]) ⟨Ayy cx hp, trivial⟩ b hb) (R := (YBs)) (T := fun (d : Bw Acf) => L5 d.1) A8c
def Awh : List (Bool × List Sh) := [(false, [.sl 5 [.int .u8]]), (false, [.sl 5 [.int .u8]])]
def A8d (r : (YBs)) : List RV × List RV := ([rv (false, [.sl 5 [.int .u8]]) r], [])
def Sv : Fns := [(421, .plain, Ap3), (422, .plain, A2p)]
def Ach : Au := As Awh (fun d => (Aaz d.1 d.2.1).val) A8d
def Ayz : Sk := ⟨[(1, .v false [(.sl 5 [.int .u8], .ro)]), (5, .v false [(.sl 5 [.int .u8], (.own 8000000))]), (6, .v false [(.sl 5 [.int .u8], (.own 8000001))]), (7, .v false [(.sl 5 [.int .u8], (.own 8000002))]), (8, .v false [(.int .i64, .nil)])], [], [8000000, 8000001, 8000002]⟩
def Ay0 : List (Ex × Sk) := [((.exit 0), ⟨[(1, .v false [(.sl 5 [.int .u8], .ro)]), (6, .v false [(.sl 5 [.int .u8], (.own 8000000))]), (7, .v false [(.sl 5 [.int .u8], (.own 8000001))])], [], [8000000, 8000001]⟩)]
def Awi : Bp := fun i st => cond (Nat.beq i 7) (lam Ayz 8000000 Ay0 Ks st) <| .fail
theorem Bb6 : ∀ d, bod ⟨A3 tys, A1 Sv, Av Sv, 3, 4⟩ 0 Tryz.f380.ntmps Awi (Ai Tryz.f380 0) Ayz 8000000 Ay0 d = Ks d := fun d => by kernel_rfl
theorem Bb7 (cx : Cx) (hp : cx.pin.length ≤ 0) : Bh Tryz.prog cx Tryz.f380.ntmps Awi (Ai Tryz.f380 0) := Be (Aq A6 Aw (show A5 Tryz.prog Sv from ⟨Aoa, Al1, trivial⟩)) hp (Ax (by kernel_rfl : Ar (Ai Tryz.f380 0) = []) trivial) (by kernel_rfl) Bb6
theorem Bkj : ∀ d, Bs ⟨A3 tys, A1 Sv, Av Sv, 3, 4⟩ 0 Awi Tryz.f380 .plain (mkA Awh d) = (Aaz d.1 d.2.1).run fun r => some (A8d r) := fun d => by kernel_rfl
theorem Uw : Fn Tryz.prog 380 .plain Ach := Bu (Aq A6 Aw (show A5 Tryz.prog Sv from ⟨Aoa, Al1, trivial⟩)) Tryz.func380 (by kernel_rfl) (by kernel_rfl) (fun cx b hp hb => Ax (by kernel_rfl : Ar (Tryz.f380.body.getD .skip) = [Ai Tryz.f380 0]) ⟨Bb7 cx hp, trivial⟩ b hb) (R := (YBs)) (T := fun (d : Bw Awh) => Aaz d.1 d.2.1) Bkj
def Agr : Au := As [(false, [.sl 5 [.int .u8]]), (false, [.sl 5 [.int .u8]])] (fun d => (Tr d.1 d.2.1).val) fun r => ([rv (false, [.sl 5 [.int .u8]]) r], [])
theorem Ap4 : Fn Tryz.prog 289 .plain Agr := mkF [(380, .plain, Ach)] ⟨Uw, trivial⟩ Tryz.func289 (by kernel_rfl) (by kernel_rfl) (by kernel_rfl) 0 fun d => by kernel_rfl
def Al2 : List (Bool × List Sh) := [(false, [.sl 5 [.int .u8]]), (false, [.sl 5 [.int .u8]]), (false, [.int .i64])]
def Ay1 (r : (YBs) × (Bool × Unit)) : List RV × List RV := ([rv (false, [.sl 5 [.int .u8]]) r.1, rv (false, [.bool]) r.2], [])
def Nl : Fns := [(94, .plain, Cp), (380, .plain, Ach)]
def Ay2 : Au := As Al2 (fun d => (Qo d.1 d.2.1 d.2.2.1).val) Ay1
def Ap5 : Sk := ⟨[(0, .v false [(.sl 5 [.int .u8], .ro)]), (1, .v false [(.sl 5 [.int .u8], .ro)]), (2, .v false [(.int .i64, .nil)]), (8, .v false [(.sl 5 [.int .u8], (.own 7000000))]), (9, .v false [(.sl 5 [.int .u8], (.own 7000001))]), (10, .v false [(.int .i64, .nil)])], [], [7000000, 7000001]⟩
def Ap6 : List (Ex × Sk) := [((.exit 0), ⟨[(2, .v false [(.int .i64, .nil)]), (8, .v false [(.sl 5 [.int .u8], (.own 7000000))])], [], [7000000]⟩)]
def Al3 : Bp := fun i st => cond (Nat.beq i 6) (lam Ap5 7000000 Ap6 He st) <| .fail
theorem A57 : ∀ d, bod ⟨A3 tys, A1 Nl, Av Nl, 3, 4⟩ 0 Tryz.f382.ntmps Al3 (Ai Tryz.f382 0) Ap5 7000000 Ap6 d = He d := fun d => by kernel_rfl
theorem A58 (cx : Cx) (hp : cx.pin.length ≤ 0) : Bh Tryz.prog cx Tryz.f382.ntmps Al3 (Ai Tryz.f382 0) := Be (Aq A6 Aw (show A5 Tryz.prog Nl from ⟨Bx, Uw, trivial⟩)) hp (Ax (by kernel_rfl : Ar (Ai Tryz.f382 0) = []) trivial) (by kernel_rfl) A57
theorem Bfh : ∀ d, Bs ⟨A3 tys, A1 Nl, Av Nl, 3, 4⟩ 0 Al3 Tryz.f382 .plain (mkA Al2 d) = (Qo d.1 d.2.1 d.2.2.1).run fun r => some (Ay1 r) := fun d => by kernel_rfl
theorem Bb8 : Fn Tryz.prog 382 .plain Ay2 := Bu (Aq A6 Aw (show A5 Tryz.prog Nl from ⟨Bx, Uw, trivial⟩)) Tryz.func382 (by kernel_rfl) (by kernel_rfl) (fun cx b hp hb => Ax (by kernel_rfl : Ar (Tryz.f382.body.getD .skip) = [Ai Tryz.f382 0]) ⟨A58 cx hp, trivial⟩ b hb) (R := (YBs) × (Bool × Unit)) (T := fun (d : Bw Al2) => Qo d.1 d.2.1 d.2.2.1) Bfh
def Z6 : Au := As [(false, [.sl 5 [.int .u8]]), (false, [.str])] (fun d => (Akf d.1 d.2.1).val) fun r => ([rv (false, [.sl 5 [.int .u8]]) r], [])
theorem T3 : Fn Tryz.prog 288 .plain Z6 := mkF [(382, .plain, Ay2)] ⟨Bb8, trivial⟩ Tryz.func288 (by kernel_rfl) (by kernel_rfl) (by kernel_rfl) 0 fun d => by kernel_rfl
def Vi : Au := As [(false, [.sl 5 [.int .u8]])] (fun d => (U7 d.1).val) fun r => ([rv (false, [.sl 5 [.int .u8]]) r], [])
theorem Ah4 : Fn Tryz.prog 110 .plain Vi := mkF [(130, .plain, Ad7), (289, .plain, Agr), (288, .plain, Z6)] ⟨Alz, Ap4, T3, trivial⟩ Tryz.func110 (by kernel_rfl) (by kernel_rfl) (by kernel_rfl) 0 fun d => by kernel_rfl
def Vj : Au := As [(false, [.int .i64]), (false, [.sl 5 [.int .u8]]), (false, [.sl 5 [.int .u8]]), (false, [.int .i64]), (false, [.sl 5 [.int .u8]])] (fun d => (U8 d.1 d.2.1 d.2.2.1 d.2.2.2.1 d.2.2.2.2.1).val) fun r => ([rv (false, [.sl 5 [.int .u8]]) r], [])
theorem Ah5 : Fn Tryz.prog 111 .plain Vj := mkF [(94, .plain, Cp), (282, .plain, Sr)] ⟨Bx, Mn, trivial⟩ Tryz.func111 (by kernel_rfl) (by kernel_rfl) (by kernel_rfl) 0 fun d => by kernel_rfl
def As4 : Au := As [(false, [.sl 5 [.int .u8]]), (false, [.sl 5 [.int .u8]])] (fun d => (A19 d.1 d.2.1).val) fun r => ([rv (false, [.sl 5 [.int .u8]]) r], [])
theorem Al4 : Fn Tryz.prog 280 .plain As4 := mkF [(380, .plain, Ach)] ⟨Uw, trivial⟩ Tryz.func280 (by kernel_rfl) (by kernel_rfl) (by kernel_rfl) 0 fun d => by kernel_rfl
def A4n : Au := As [(false, [.sl 5 [.int .u8]]), (false, [.int .i64]), (false, [.sl 5 [.int .u8]]), (false, [.sl 5 [.int .u8]]), (false, [.int .i64]), (false, [.sl 5 [.int .u8]])] (fun d => (Ao5 d.1 d.2.1 d.2.2.1 d.2.2.2.1 d.2.2.2.2.1 d.2.2.2.2.2.1).val) fun r => ([rv (false, [.sl 5 [.int .u8]]) r], [])
theorem Bfi : Fn Tryz.prog 285 .plain A4n := mkF [(110, .plain, Vi), (111, .plain, Vj), (280, .plain, As4)] ⟨Ah4, Ah5, Al4, trivial⟩ Tryz.func285 (by kernel_rfl) (by kernel_rfl) (by kernel_rfl) 0 fun d => by kernel_rfl
def Ap7 : Au := As [(false, [.sl 5 [.int .u8]]), (false, [.int .i64]), (true, B8)] (fun d => (Aa0 d.1 d.2.1 d.2.2.1).val) fun r => ([rv (true, B8) r.1, rv (false, [.bool]) r.2], [])
theorem A59 : Fn Tryz.prog 227 .plain Ap7 := mkF [(196, .plain, Lj), (285, .plain, A4n), (230, .plain, Z2)] ⟨Mm, Bfi, Agl, trivial⟩ Tryz.func227 (by kernel_rfl) (by kernel_rfl) (by kernel_rfl) 0 fun d => by kernel_rfl
def Auc : Au := As [(false, [.sl 5 [.int .u8]]), (false, [.sl 5 [.int .u8]]), (false, [.sl 5 [.int .u8]])] (fun d => (Afn d.1 d.2.1 d.2.2.1).val) fun r => ([rv (false, [.sl 5 [.int .u8]]) r], [])
theorem A8e : Fn Tryz.prog 353 .plain Auc := mkF [(130, .plain, Ad7), (289, .plain, Agr)] ⟨Alz, Ap4, trivial⟩ Tryz.func353 (by kernel_rfl) (by kernel_rfl) (by kernel_rfl) 0 fun d => by kernel_rfl
def Ap8 : Au := As [(false, [.sl 5 [.int .u8]])] (fun d => (Aa2 d.1).val) fun r => ([rv (false, [.sl 5 [.int .u8]]) r], [])
theorem A6a : Fn Tryz.prog 352 .plain Ap8 := mkF [(288, .plain, Z6)] ⟨T3, trivial⟩ Tryz.func352 (by kernel_rfl) (by kernel_rfl) (by kernel_rfl) 0 fun d => by kernel_rfl
def Ap9 : List (Bool × List Sh) := [(false, [.sl 5 [.int .u8]]), (false, [.int .i64])]
def A4o (r : (YBs)) : List RV × List RV := ([rv (false, [.sl 5 [.int .u8]]) r], [])
def Ps : Fns := [(94, .plain, Cp), (288, .plain, Z6)]
def A4p : Au := As Ap9 (fun d => (Ug d.1 d.2.1).val) A4o
def Aud : Sk := ⟨[(1, .v false [(.int .i64, .nil)]), (5, .v false [(.sl 5 [.int .u8], (.own 6000000))]), (6, .v false [(.int .i64, .nil)])], [], [6000000]⟩
def Aue : List (Ex × Sk) := [((.exit 0), ⟨[(5, .v false [(.sl 5 [.int .u8], (.own 6000000))])], [], [6000000]⟩)]
def Aqa : Bp := fun i st => cond (Nat.beq i 5) (lam Aud 6000000 Aue I9 st) <| .fail
theorem A8f : ∀ d, bod ⟨A3 tys, A1 Ps, Av Ps, 3, 4⟩ 0 Tryz.f354.ntmps Aqa (Ai Tryz.f354 0) Aud 6000000 Aue d = I9 d := fun d => by kernel_rfl
theorem A8g (cx : Cx) (hp : cx.pin.length ≤ 0) : Bh Tryz.prog cx Tryz.f354.ntmps Aqa (Ai Tryz.f354 0) := Be (Aq A6 Aw (show A5 Tryz.prog Ps from ⟨Bx, T3, trivial⟩)) hp (Ax (by kernel_rfl : Ar (Ai Tryz.f354 0) = []) trivial) (by kernel_rfl) A8f
theorem Bh1 : ∀ d, Bs ⟨A3 tys, A1 Ps, Av Ps, 3, 4⟩ 0 Aqa Tryz.f354 .plain (mkA Ap9 d) = (Ug d.1 d.2.1).run fun r => some (A4o r) := fun d => by kernel_rfl
theorem Bfj : Fn Tryz.prog 354 .plain A4p := Bu (Aq A6 Aw (show A5 Tryz.prog Ps from ⟨Bx, T3, trivial⟩)) Tryz.func354 (by kernel_rfl) (by kernel_rfl) (fun cx b hp hb => Ax (by kernel_rfl : Ar (Tryz.f354.body.getD .skip) = [Ai Tryz.f354 0]) ⟨A8g cx hp, trivial⟩ b hb) (R := (YBs)) (T := fun (d : Bw Ap9) => Ug d.1 d.2.1) Bh1
def Aqb : Au := As [(false, [.sl 5 [.int .u8]]), (false, [.sl 5 [.int .u8]]), (false, [.sl 5 [.int .u8]]), (false, [.int .i64])] (fun d => (Aa4 d.1 d.2.1 d.2.2.1 d.2.2.2.1).val) fun r => ([rv (false, [.sl 5 [.int .u8]]) r], [])
theorem A6b : Fn Tryz.prog 229 .plain Aqb := mkF [(353, .plain, Auc), (352, .plain, Ap8), (354, .plain, A4p)] ⟨A8e, A6a, Bfj, trivial⟩ Tryz.func229 (by kernel_rfl) (by kernel_rfl) (by kernel_rfl) 0 fun d => by kernel_rfl
def Al5 : List (Bool × List Sh) := []
def Ay3 (r : (Bi)) : List RV × List RV := ([rv (true, [.int .i64, .sl 3 [.int .i64]]) r], [])
def Nm : Fns := []
def Ay4 : Au := As Al5 (fun d => (Qq ).val) Ay3
def Aqc : Sk := ⟨[(0, .box 0 0), (1, .box 1 0), (2, .v false [(.int .i64, .nil)])], [(0, [(.int .i64, .nil), (.sl 3 [.int .i64], (.own 4000000))]), (1, [(.int .i64, .nil), (.sl 3 [.int .i64], (.own 4000001))])], [4000000, 4000001]⟩
def Aqd : List (Ex × Sk) := [((.exit 0), ⟨[(0, .box 0 0), (1, .box 1 0)], [(0, [(.int .i64, .nil), (.sl 3 [.int .i64], (.own 4000000))]), (1, [(.int .i64, .nil), (.sl 3 [.int .i64], (.own 4000001))])], [4000000, 4000001]⟩)]
def Al6 : Bp := fun i st => cond (Nat.beq i 3) (lam Aqc 4000000 Aqd Hf st) <| .fail
theorem A6c : ∀ d, bod ⟨A3 tys, A1 Nm, Av Nm, 3, 4⟩ 0 Tryz.f395.ntmps Al6 (Ai Tryz.f395 0) Aqc 4000000 Aqd d = Hf d := fun d => by kernel_rfl
theorem A6d (cx : Cx) (hp : cx.pin.length ≤ 0) : Bh Tryz.prog cx Tryz.f395.ntmps Al6 (Ai Tryz.f395 0) := Be (Aq A6 Aw (show A5 Tryz.prog Nm from trivial)) hp (Ax (by kernel_rfl : Ar (Ai Tryz.f395 0) = []) trivial) (by kernel_rfl) A6c
theorem Bfk : ∀ d, Bs ⟨A3 tys, A1 Nm, Av Nm, 3, 4⟩ 0 Al6 Tryz.f395 .plain (mkA Al5 d) = (Qq ).run fun r => some (Ay3 r) := fun d => by kernel_rfl
theorem Bb9 : Fn Tryz.prog 395 .plain Ay4 := Bu (Aq A6 Aw (show A5 Tryz.prog Nm from trivial)) Tryz.func395 (by kernel_rfl) (by kernel_rfl) (fun cx b hp hb => Ax (by kernel_rfl : Ar (Tryz.f395.body.getD .skip) = [Ai Tryz.f395 0]) ⟨A6d cx hp, trivial⟩ b hb) (R := (Bi)) (T := fun (d : Bw Al5) => Qq ) Bfk
def Aqe : Au := As [(false, [.int .i64]), (false, [.sl 5 [.int .u8]])] (fun d => (Uh d.1 d.2.1).val) fun r => ([rv (true, h_6) r], [])
theorem Ay5 : Fn Tryz.prog 321 .plain Aqe := mkF [(94, .plain, Cp), (395, .plain, Ay4)] ⟨Bx, Bb9, trivial⟩ Tryz.func321 (by kernel_rfl) (by kernel_rfl) (by kernel_rfl) 0 fun d => by kernel_rfl
def Auf : Au := As [(false, [.int .i64]), (false, [.sl 5 [.int .u8]]), (false, [.sl 5 [.int .u8]])] (fun d => (Afp d.1 d.2.1 d.2.2.1).val) fun r => ([rv (true, D4) r], [])
theorem A8h : Fn Tryz.prog 228 .plain Auf := mkF [(94, .plain, Cp), (321, .plain, Aqe)] ⟨Bx, Ay5, trivial⟩ Tryz.func228 (by kernel_rfl) (by kernel_rfl) (by kernel_rfl) 0 fun d => by kernel_rfl
def Aqf : Au := As [(false, [.int .i64])] (fun d => (Qr d.1).val) fun r => ([rv (true, h_1) r], [])
theorem A6e : Fn Tryz.prog 172 .plain Aqf := mkF [(94, .plain, Cp)] ⟨Bx, trivial⟩ Tryz.func172 (by kernel_rfl) (by kernel_rfl) (by kernel_rfl) 0 fun d => by kernel_rfl
def Awj : Au := As [(false, [.sl 5 [.int .u8]]), (false, [.sl 5 [.int .u8]])] (fun d => (Avw d.1 d.2.1).val) fun r => ([rv (true, h_9) r], [])
theorem A4q : Fn Tryz.prog 102 .plain Awj := mkF [] trivial Tryz.func102 (by kernel_rfl) (by kernel_rfl) (by kernel_rfl) 0 fun d => by kernel_rfl
def Rc : Au := As [(false, [.int .i64]), (false, [.sl 5 [.int .u8]]), (false, [.int .i64]), (false, [.int .i64])] (fun d => (Aki d.1 d.2.1 d.2.2.1 d.2.2.2.1).val) fun r => ([rv (false, [.sl 5 [.int .u8]]) r], [])
theorem Ol : Fn Tryz.prog 344 .plain Rc := mkF [(94, .plain, Cp), (282, .plain, Sr)] ⟨Bx, Mn, trivial⟩ Tryz.func344 (by kernel_rfl) (by kernel_rfl) (by kernel_rfl) 0 fun d => by kernel_rfl
def Jx : Au := As [(false, [.int .i64]), (true, B8)] (fun d => (Aa6 d.1 d.2.1).val) fun r => ([rv (false, [.sl 5 [.int .u8]]) r], [])
theorem H8 : Fn Tryz.prog 213 .plain Jx := mkF [(94, .plain, Cp), (196, .plain, Lj), (114, .plain, Kz), (344, .plain, Rc)] ⟨Bx, Mm, Jd, Ol, trivial⟩ Tryz.func213 (by kernel_rfl) (by kernel_rfl) (by kernel_rfl) 0 fun d => by kernel_rfl
def Aug : Au := As [(false, [.int .i64])] (fun d => (Afr d.1).val) fun r => ([rv (false, [.int .i64]) r], [])
theorem A8i : Fn Tryz.prog 435 .plain Aug := mkF [] trivial Tryz.func435 (by kernel_rfl) (by kernel_rfl) (by kernel_rfl) 0 fun d => by kernel_rfl
def Al7 : Au := As [(true, [.int .i64, .sl 3 [.int .i64]]), (false, [.int .i64])] (fun d => (Akj d.1 d.2.1).val) fun r => ([rv (false, [.bool]) r], [])
theorem Ags : Fn Tryz.prog 406 .plain Al7 := mkF [(400, .plain, Apq), (94, .plain, Cp), (435, .plain, Aug), (432, .plain, Apo)] ⟨Aym, Bx, A8i, Z3, trivial⟩ Tryz.func406 (by kernel_rfl) (by kernel_rfl) (by kernel_rfl) 0 fun d => by kernel_rfl
def Awk : List (Bool × List Sh) := [(false, [.sl 5 [.int .u8]]), (false, [.sl 5 [.int .u8]])]
def A8j (r : (YI)) : List RV × List RV := ([rv (false, [.int .i64]) r], [])
def Sw : Fns := []
def A8k : Au := As Awk (fun d => (Aa7 d.1 d.2.1).val) A8j
def Ay6 : Sk := ⟨[(0, .v false [(.sl 5 [.int .u8], .ro)]), (1, .v false [(.sl 5 [.int .u8], .ro)]), (5, .v false [(.int .i64, .nil)]), (6, .v false [(.int .i64, .nil)])], [], []⟩
def Ay7 : List (Ex × Sk) := [((.exit 0), ⟨[(5, .v false [(.int .i64, .nil)])], [], []⟩)]
def Awl : Bp := fun i st => cond (Nat.beq i 5) (lam Ay6 6000000 Ay7 M9 st) <| .fail
theorem Bca : ∀ d, bod ⟨A3 tys, A1 Sw, Av Sw, 3, 4⟩ 0 Tryz.f381.ntmps Awl (Ai Tryz.f381 0) Ay6 6000000 Ay7 d = M9 d := fun d => by kernel_rfl
theorem Bcb (cx : Cx) (hp : cx.pin.length ≤ 0) : Bh Tryz.prog cx Tryz.f381.ntmps Awl (Ai Tryz.f381 0) := Be (Aq A6 Aw (show A5 Tryz.prog Sw from trivial)) hp (Ax (by kernel_rfl : Ar (Ai Tryz.f381 0) = []) trivial) (by kernel_rfl) Bca
theorem Bkk : ∀ d, Bs ⟨A3 tys, A1 Sw, Av Sw, 3, 4⟩ 0 Awl Tryz.f381 .plain (mkA Awk d) = (Aa7 d.1 d.2.1).run fun r => some (A8j r) := fun d => by kernel_rfl
theorem Bh2 : Fn Tryz.prog 381 .plain A8k := Bu (Aq A6 Aw (show A5 Tryz.prog Sw from trivial)) Tryz.func381 (by kernel_rfl) (by kernel_rfl) (fun cx b hp hb => Ax (by kernel_rfl : Ar (Tryz.f381.body.getD .skip) = [Ai Tryz.f381 0]) ⟨Bcb cx hp, trivial⟩ b hb) (R := (YI)) (T := fun (d : Bw Awk) => Aa7 d.1 d.2.1) Bkk
def Auh : Au := As [(false, [.sl 5 [.int .u8]]), (false, [.sl 5 [.int .u8]])] (fun d => (Afs d.1 d.2.1).val) fun r => ([rv (false, [.bool]) r], [])
theorem A8l : Fn Tryz.prog 284 .plain Auh := mkF [(381, .plain, A8k)] ⟨Bh2, trivial⟩ Tryz.func284 (by kernel_rfl) (by kernel_rfl) (by kernel_rfl) 0 fun d => by kernel_rfl
def Aui : Au := As [(false, [.sl 5 [.int .u8]]), (false, [.sl 5 [.int .u8]]), (false, [.int .i64])] (fun d => (Afu d.1 d.2.1 d.2.2.1).val) fun r => ([rv (false, [.sl 5 [.int .u8]]) r], [])
theorem Aqg : Fn Tryz.prog 448 .plain Aui := mkF [(94, .plain, Cp), (282, .plain, Sr), (380, .plain, Ach)] ⟨Bx, Mn, Uw, trivial⟩ Tryz.func448 (by kernel_rfl) (by kernel_rfl) (by kernel_rfl) 0 fun d => by kernel_rfl
def Al8 : List (Bool × List Sh) := [(false, [.sl 5 [.int .u8]]), (false, [.sl 5 [.int .u8]]), (false, [.int .i64])]
def Ay8 (r : (YBs)) : List RV × List RV := ([rv (false, [.sl 5 [.int .u8]]) r], [])
def Nn : Fns := [(94, .plain, Cp), (448, .plain, Aui)]
def Ay9 : Au := As Al8 (fun d => (Qs d.1 d.2.1 d.2.2.1).val) Ay8
def Aqh : Sk := ⟨[(0, .v false [(.sl 5 [.int .u8], .ro)]), (1, .v false [(.sl 5 [.int .u8], .ro)]), (2, .v false [(.int .i64, .nil)]), (7, .v false [(.sl 5 [.int .u8], (.own 6000000))]), (8, .v false [(.int .i64, .nil)])], [], [6000000]⟩
def Aqi : List (Ex × Sk) := [((.exit 0), ⟨[(2, .v false [(.int .i64, .nil)]), (7, .v false [(.sl 5 [.int .u8], (.own 6000000))])], [], [6000000]⟩)]
def Al9 : Bp := fun i st => cond (Nat.beq i 5) (lam Aqh 6000000 Aqi Hh st) <| .fail
theorem A6f : ∀ d, bod ⟨A3 tys, A1 Nn, Av Nn, 3, 4⟩ 0 Tryz.f431.ntmps Al9 (Ai Tryz.f431 0) Aqh 6000000 Aqi d = Hh d := fun d => by kernel_rfl
theorem A6g (cx : Cx) (hp : cx.pin.length ≤ 0) : Bh Tryz.prog cx Tryz.f431.ntmps Al9 (Ai Tryz.f431 0) := Be (Aq A6 Aw (show A5 Tryz.prog Nn from ⟨Bx, Aqg, trivial⟩)) hp (Ax (by kernel_rfl : Ar (Ai Tryz.f431 0) = []) trivial) (by kernel_rfl) A6f
theorem Bfl : ∀ d, Bs ⟨A3 tys, A1 Nn, Av Nn, 3, 4⟩ 0 Al9 Tryz.f431 .plain (mkA Al8 d) = (Qs d.1 d.2.1 d.2.2.1).run fun r => some (Ay8 r) := fun d => by kernel_rfl
theorem Auj : Fn Tryz.prog 431 .plain Ay9 := Bu (Aq A6 Aw (show A5 Tryz.prog Nn from ⟨Bx, Aqg, trivial⟩)) Tryz.func431 (by kernel_rfl) (by kernel_rfl) (fun cx b hp hb => Ax (by kernel_rfl : Ar (Tryz.f431.body.getD .skip) = [Ai Tryz.f431 0]) ⟨A6g cx hp, trivial⟩ b hb) (R := (YBs)) (T := fun (d : Bw Al8) => Qs d.1 d.2.1 d.2.2.1) Bfl
def A2r : List (Bool × List Sh) := [(false, [.sl 5 [.int .u8]]), (false, [.sl 5 [.int .u8]]), (false, [.sl 5 [.int .u8]])]
def Bdz (r : (YBs)) : List RV × List RV := ([rv (false, [.sl 5 [.int .u8]]) r], [])
def Aag : Fns := [(431, .plain, Ay9)]
def A2s : Au := As A2r (fun d => (Ahq d.1 d.2.1 d.2.2.1).val) Bdz
def A4r : Sk := ⟨[(2, .v false [(.sl 5 [.int .u8], .ro)]), (7, .v false [(.sl 5 [.int .u8], (.own 7000000))]), (8, .v false [(.sl 5 [.int .u8], (.own 7000001))]), (9, .v false [(.int .i64, .nil)])], [], [7000000, 7000001]⟩
def A4s : List (Ex × Sk) := [((.exit 0), ⟨[(7, .v false [(.sl 5 [.int .u8], (.own 7000000))])], [], [7000000]⟩)]
def A2t : Bp := fun i st => cond (Nat.beq i 6) (lam A4r 7000000 A4s L6 st) <| .fail
theorem Bfm : ∀ d, bod ⟨A3 tys, A1 Aag, Av Aag, 3, 4⟩ 0 Tryz.f396.ntmps A2t (Ai Tryz.f396 0) A4r 7000000 A4s d = L6 d := fun d => by kernel_rfl
theorem Bfn (cx : Cx) (hp : cx.pin.length ≤ 0) : Bh Tryz.prog cx Tryz.f396.ntmps A2t (Ai Tryz.f396 0) := Be (Aq A6 Aw (show A5 Tryz.prog Aag from ⟨Auj, trivial⟩)) hp (Ax (by kernel_rfl : Ar (Ai Tryz.f396 0) = []) trivial) (by kernel_rfl) Bfm
theorem Bmk : ∀ d, Bs ⟨A3 tys, A1 Aag, Av Aag, 3, 4⟩ 0 A2t Tryz.f396 .plain (mkA A2r d) = (Ahq d.1 d.2.1 d.2.2.1).run fun r => some (Bdz r) := fun d => by kernel_rfl
theorem Awm : Fn Tryz.prog 396 .plain A2s := Bu (Aq A6 Aw (show A5 Tryz.prog Aag from ⟨Auj, trivial⟩)) Tryz.func396 (by kernel_rfl) (by kernel_rfl) (fun cx b hp hb => Ax (by kernel_rfl : Ar (Tryz.f396.body.getD .skip) = [Ai Tryz.f396 0]) ⟨Bfn cx hp, trivial⟩ b hb) (R := (YBs)) (T := fun (d : Bw A2r) => Ahq d.1 d.2.1 d.2.2.1) Bmk
def Aza : Au := As [(false, [.sl 5 [.int .u8]]), (false, [.int .i64]), (true, B8)] (fun d => (Akl d.1 d.2.1 d.2.2.1).val) fun r => ([rv (false, [.sl 5 [.int .u8]]) r.1, rv (false, [.bool]) r.2], [])
theorem Bcc : Fn Tryz.prog 407 .plain Aza := mkF [(213, .plain, Jx), (280, .plain, As4), (284, .plain, Auh), (344, .plain, Rc), (396, .plain, A2s)] ⟨H8, Al4, A8l, Ol, Awm, trivial⟩ Tryz.func407 (by kernel_rfl) (by kernel_rfl) (by kernel_rfl) 0 fun d => by kernel_rfl
def Ama : List (Bool × List Sh) := [(true, [.int .i64, .sl 3 [.int .i64]]), (false, [.int .i64])]
def Azb (r : (Bi) × (Bool × Unit)) : List RV × List RV := ([rv (true, [.int .i64, .sl 3 [.int .i64]]) r.1, rv (false, [.bool]) r.2], [])
def No : Fns := [(427, .plain, Aly), (406, .plain, Al7)]
def Azc : Au := As Ama (fun d => (Qt d.1 d.2.1).val) Azb
def Aqj : Sk := ⟨[(1, .v false [(.int .i64, .nil)]), (2, .box 2 0), (4, .box 4 0), (6, .box 6 0), (7, .v false [(.int .i64, .nil)]), (8, .v false [(.int .i64, .nil)])], [(2, [(.int .i64, .nil), (.sl 3 [.int .i64], .ro)]), (4, [(.int .i64, .nil), (.sl 3 [.int .i64], (.own 7000000))]), (6, [(.int .i64, .nil), (.sl 3 [.int .i64], (.own 7000001))])], [7000000, 7000001]⟩
def Aqk : List (Ex × Sk) := [((.exit 0), ⟨[(1, .v false [(.int .i64, .nil)]), (2, .box 2 0), (4, .box 4 0), (6, .box 6 0)], [(2, [(.int .i64, .nil), (.sl 3 [.int .i64], .ro)]), (4, [(.int .i64, .nil), (.sl 3 [.int .i64], (.own 7000000))]), (6, [(.int .i64, .nil), (.sl 3 [.int .i64], (.own 7000001))])], [7000000, 7000001]⟩)]
def Amb : Bp := fun i st => cond (Nat.beq i 6) (lam Aqj 7000000 Aqk Hi st) <| .fail
theorem A6h : ∀ d, bod ⟨A3 tys, A1 No, Av No, 3, 4⟩ 0 Tryz.f408.ntmps Amb (Ai Tryz.f408 0) Aqj 7000000 Aqk d = Hi d := fun d => by kernel_rfl
theorem A6i (cx : Cx) (hp : cx.pin.length ≤ 0) : Bh Tryz.prog cx Tryz.f408.ntmps Amb (Ai Tryz.f408 0) := Be (Aq A6 Aw (show A5 Tryz.prog No from ⟨Agm, Ags, trivial⟩)) hp (Ax (by kernel_rfl : Ar (Ai Tryz.f408 0) = []) trivial) (by kernel_rfl) A6h
theorem Bfo : ∀ d, Bs ⟨A3 tys, A1 No, Av No, 3, 4⟩ 0 Amb Tryz.f408 .plain (mkA Ama d) = (Qt d.1 d.2.1).run fun r => some (Azb r) := fun d => by kernel_rfl
theorem Bcd : Fn Tryz.prog 408 .plain Azc := Bu (Aq A6 Aw (show A5 Tryz.prog No from ⟨Agm, Ags, trivial⟩)) Tryz.func408 (by kernel_rfl) (by kernel_rfl) (fun cx b hp hb => Ax (by kernel_rfl : Ar (Tryz.f408.body.getD .skip) = [Ai Tryz.f408 0]) ⟨A6i cx hp, trivial⟩ b hb) (R := (Bi) × (Bool × Unit)) (T := fun (d : Bw Ama) => Qt d.1 d.2.1) Bfo
def Azd : Au := As [(true, h_6), (false, [.int .i64]), (true, B8)] (fun d => (Ako d.1 d.2.1 d.2.2.1).val) fun r => ([rv (true, h_6) r.1, rv (false, [.sl 5 [.int .u8]]) r.2.1, rv (false, [.int .i64]) r.2.2], [])
theorem Bce : Fn Tryz.prog 343 .plain Azd := mkF [(390, .plain, Ra), (328, .plain, Al0), (213, .plain, Jx), (406, .plain, Al7), (407, .plain, Aza), (408, .plain, Azc)] ⟨Tz, Apt, H8, Ags, Bcc, Bcd, trivial⟩ Tryz.func343 (by kernel_rfl) (by kernel_rfl) (by kernel_rfl) 0 fun d => by kernel_rfl
def Aql : Au := As [(true, D4), (false, [.int .i64]), (true, B8)] (fun d => (Qu d.1 d.2.1 d.2.2.1).val) fun r => ([rv (true, D4) r.1, rv (false, [.sl 5 [.int .u8]]) r.2.1, rv (false, [.int .i64]) r.2.2], [])
theorem A6j : Fn Tryz.prog 211 .plain Aql := mkF [(310, .plain, T0), (195, .plain, Rb), (94, .plain, Cp), (196, .plain, Lj), (114, .plain, Kz), (112, .plain, Z5), (343, .plain, Azd), (321, .plain, Aqe)] ⟨Acb, T1, Bx, Mm, Jd, Ago, Bce, Ay5, trivial⟩ Tryz.func211 (by kernel_rfl) (by kernel_rfl) (by kernel_rfl) 0 fun d => by kernel_rfl
def Aze : Au := As [(true, D4), (false, [.int .i64])] (fun d => (Akp d.1 d.2.1).val) fun r => ([rv (false, [.sl 5 [.int .u8]]) r.1, rv (false, [.bool]) r.2], [])
theorem Bcf : Fn Tryz.prog 212 .plain Aze := mkF [(195, .plain, Rb)] ⟨T1, trivial⟩ Tryz.func212 (by kernel_rfl) (by kernel_rfl) (by kernel_rfl) 0 fun d => by kernel_rfl
def A8m : Au := As [(false, [.sl 5 [.int .u8]]), (false, [.sl 5 [.int .u8]]), (false, [.sl 5 [.int .u8]])] (fun d => (Avy d.1 d.2.1 d.2.2.1).val) fun r => ([rv (true, h_9) r], [])
theorem Bh3 : Fn Tryz.prog 109 .plain A8m := mkF [] trivial Tryz.func109 (by kernel_rfl) (by kernel_rfl) (by kernel_rfl) 0 fun d => by kernel_rfl
def Awn : List (Bool × List Sh) := [(false, [.sl 5 [.int .u8]]), (false, [.int .i64]), (false, [.sl 5 [.int .u8]]), (false, [.int .i64]), (false, [.int .i64]), (false, [.int .i64]), (false, [.sl 5 [.int .u8]])]
def A8n (r : (Aa) × (Bool × Unit)) : List RV × List RV := ([rv (true, B8) r.1, rv (false, [.bool]) r.2], [])
def Sx : Fns := [(344, .plain, Rc), (114, .plain, Kz), (329, .plain, Z4), (396, .plain, A2s), (213, .plain, Jx), (280, .plain, As4)]
def A8o : Au := As Awn (fun d => (Aa8 d.1 d.2.1 d.2.2.1 d.2.2.2.1 d.2.2.2.2.1 d.2.2.2.2.2.1 d.2.2.2.2.2.2.1).val) A8n
def Azf : Sk := ⟨[(0, .v false [(.sl 5 [.int .u8], .ro)]), (1, .v false [(.int .i64, .nil)]), (14, .box 14 0), (17, .box 17 0), (18, .v false [(.int .i64, .nil)])], [(14, [(.int .i64, .nil), (.int .i64, .nil), (.sl 5 [.int .u8], (.own 7000000)), (.sl 5 [.int .u8], (.own 7000001)), (.int .i64, .nil), (.sl 5 [.int .u8], (.own 7000002)), (.sl 5 [.int .u8], (.own 7000003)), (.int .i64, .nil), (.int .i64, .nil), (.sl 5 [.int .u8], (.own 7000004)), (.sl 5 [.int .u8], (.own 7000005))]), (17, [(.int .i64, .nil), (.int .i64, .nil), (.sl 5 [.int .u8], (.own 7000006)), (.sl 5 [.int .u8], (.own 7000007)), (.int .i64, .nil), (.sl 5 [.int .u8], (.own 7000008)), (.sl 5 [.int .u8], (.own 7000009)), (.int .i64, .nil), (.int .i64, .nil), (.sl 5 [.int .u8], (.own 7000010)), (.sl 5 [.int .u8], (.own 7000011))])], [7000000, 7000001, 7000002, 7000003, 7000004, 7000005, 7000006, 7000007, 7000008, 7000009, 7000010, 7000011]⟩
def Azg : List (Ex × Sk) := [((.exit 0), ⟨[(0, .v false [(.sl 5 [.int .u8], .ro)]), (1, .v false [(.int .i64, .nil)]), (14, .box 14 0), (17, .box 17 0)], [(14, [(.int .i64, .nil), (.int .i64, .nil), (.sl 5 [.int .u8], (.own 7000000)), (.sl 5 [.int .u8], (.own 7000001)), (.int .i64, .nil), (.sl 5 [.int .u8], (.own 7000002)), (.sl 5 [.int .u8], (.own 7000003)), (.int .i64, .nil), (.int .i64, .nil), (.sl 5 [.int .u8], (.own 7000004)), (.sl 5 [.int .u8], (.own 7000005))]), (17, [(.int .i64, .nil), (.int .i64, .nil), (.sl 5 [.int .u8], (.own 7000006)), (.sl 5 [.int .u8], (.own 7000007)), (.int .i64, .nil), (.sl 5 [.int .u8], (.own 7000008)), (.sl 5 [.int .u8], (.own 7000009)), (.int .i64, .nil), (.int .i64, .nil), (.sl 5 [.int .u8], (.own 7000010)), (.sl 5 [.int .u8], (.own 7000011))])], [7000000, 7000001, 7000002, 7000003, 7000004, 7000005, 7000006, 7000007, 7000008, 7000009, 7000010, 7000011]⟩)]
def Awo : Bp := fun i st => cond (Nat.beq i 6) (lam Azf 7000000 Azg Ku st) <| .fail
theorem Bcg : ∀ d, bod ⟨A3 tys, A1 Sx, Av Sx, 3, 4⟩ 0 Tryz.f322.ntmps Awo (Ai Tryz.f322 0) Azf 7000000 Azg d = Ku d := fun d => by kernel_rfl
theorem Bch (cx : Cx) (hp : cx.pin.length ≤ 0) : Bh Tryz.prog cx Tryz.f322.ntmps Awo (Ai Tryz.f322 0) := Be (Aq A6 Aw (show A5 Tryz.prog Sx from ⟨Ol, Jd, T2, Awm, H8, Al4, trivial⟩)) hp (Ax (by kernel_rfl : Ar (Ai Tryz.f322 0) = []) trivial) (by kernel_rfl) Bcg
theorem Bkl : ∀ d, Bs ⟨A3 tys, A1 Sx, Av Sx, 3, 4⟩ 0 Awo Tryz.f322 .plain (mkA Awn d) = (Aa8 d.1 d.2.1 d.2.2.1 d.2.2.2.1 d.2.2.2.2.1 d.2.2.2.2.2.1 d.2.2.2.2.2.2.1).run fun r => some (A8n r) := fun d => by kernel_rfl
theorem Bh4 : Fn Tryz.prog 322 .plain A8o := Bu (Aq A6 Aw (show A5 Tryz.prog Sx from ⟨Ol, Jd, T2, Awm, H8, Al4, trivial⟩)) Tryz.func322 (by kernel_rfl) (by kernel_rfl) (fun cx b hp hb => Ax (by kernel_rfl : Ar (Tryz.f322.body.getD .skip) = [Ai Tryz.f322 0]) ⟨Bch cx hp, trivial⟩ b hb) (R := (Aa) × (Bool × Unit)) (T := fun (d : Bw Awn) => Aa8 d.1 d.2.1 d.2.2.1 d.2.2.2.1 d.2.2.2.2.1 d.2.2.2.2.2.1 d.2.2.2.2.2.2.1) Bkl
def Azh : Au := As [(true, h_6), (false, [.int .i64]), (false, [.sl 5 [.int .u8]]), (false, [.int .i64]), (false, [.sl 5 [.int .u8]])] (fun d => (Akr d.1 d.2.1 d.2.2.1 d.2.2.2.1 d.2.2.2.2.1).val) fun r => ([rv (true, h_6) r.1, rv (true, B8) r.2.1, rv (false, [.int .i64]) r.2.2], [])
theorem Bci : Fn Tryz.prog 349 .plain Azh := mkF [(390, .plain, Ra), (328, .plain, Al0), (344, .plain, Rc), (114, .plain, Kz), (329, .plain, Z4), (322, .plain, A8o)] ⟨Tz, Apt, Ol, Jd, T2, Bh4, trivial⟩ Tryz.func349 (by kernel_rfl) (by kernel_rfl) (by kernel_rfl) 0 fun d => by kernel_rfl
def Aqm : Au := As [(true, D4), (false, [.int .i64]), (false, [.sl 5 [.int .u8]])] (fun d => (Aa9 d.1 d.2.1 d.2.2.1).val) fun r => ([rv (true, D4) r.1, rv (true, B8) r.2.1, rv (false, [.int .i64]) r.2.2], [])
theorem A6k : Fn Tryz.prog 219 .plain Aqm := mkF [(310, .plain, T0), (195, .plain, Rb), (349, .plain, Azh)] ⟨Acb, T1, Bci, trivial⟩ Tryz.func219 (by kernel_rfl) (by kernel_rfl) (by kernel_rfl) 0 fun d => by kernel_rfl
def Auk : Au := As [(true, D4), (true, B8)] (fun d => (Afw d.1 d.2.1).val) fun r => ([rv (true, h_9) r], [])
theorem A8p : Fn Tryz.prog 217 .plain Auk := mkF [(213, .plain, Jx), (102, .plain, Awj)] ⟨H8, A4q, trivial⟩ Tryz.func217 (by kernel_rfl) (by kernel_rfl) (by kernel_rfl) 0 fun d => by kernel_rfl
def Ah6 : Au := As [(true, Fk), (false, [.int .i64]), (true, B8)] (fun d => (R5 d.1 d.2.1 d.2.2.1).val) fun r => ([rv (true, Fk) r.1, rv (false, [.sl 44 B8]) r.2.1, rv (false, [.sl 93 h_9]) r.2.2], [])
theorem Azi : Fn Tryz.prog 60 .plain Ah6 := mkF [(171, .plain, At4), (44, .plain, Apu), (94, .plain, Cp), (196, .plain, Lj), (112, .plain, Z5), (227, .plain, Ap7), (229, .plain, Aqb), (228, .plain, Auf), (172, .plain, Aqf), (110, .plain, Vi), (111, .plain, Vj), (102, .plain, Awj), (230, .plain, Z2), (114, .plain, Kz), (211, .plain, Aql), (212, .plain, Aze), (213, .plain, Jx), (109, .plain, A8m), (219, .plain, Aqm), (217, .plain, Auk)] ⟨A70, A56, Bx, Mm, Ago, A59, A6b, A8h, A6e, Ah4, Ah5, A4q, Agl, Jd, A6j, Bcf, H8, Bh3, A6k, A8p, trivial⟩ Tryz.func60 (by kernel_rfl) (by kernel_rfl) (by kernel_rfl) 0 fun d => by kernel_rfl
def B4 : Au := As [(false, [.int .i64]), (false, [.int .i64]), (false, [.int .i64])] (fun d => (Akt d.1 d.2.1 d.2.2.1).val) fun r => ([rv (false, [.bool]) r], [])
theorem Bl : Fn Tryz.prog 83 .plain B4 := mkF [] trivial Tryz.func83 (by kernel_rfl) (by kernel_rfl) (by kernel_rfl) 0 fun d => by kernel_rfl
def Aec : Au := As [(false, [.sl 5 [.int .u8]])] (fun d => (Ao8 d.1).val) fun r => ([rv (false, [.bool]) r], [])
theorem Amc : Fn Tryz.prog 125 .plain Aec := mkF [(83, .plain, B4)] ⟨Bl, trivial⟩ Tryz.func125 (by kernel_rfl) (by kernel_rfl) (by kernel_rfl) 0 fun d => by kernel_rfl
def Azj : Au := As [(true, [.int .i64, .int .i64])] (fun d => (Aku d.1).val) fun r => ([rv (false, [.bool]) r], [])
theorem Bcj : Fn Tryz.prog 84 .plain Azj := mkF [(83, .plain, B4)] ⟨Bl, trivial⟩ Tryz.func84 (by kernel_rfl) (by kernel_rfl) (by kernel_rfl) 0 fun d => by kernel_rfl
def Lf : Au := As [(false, [.sl 5 [.int .u8]]), (false, [.sl 5 [.int .u8]])] (fun d => (An1 d.1 d.2.1).val) fun r => ([rv (false, [.bool]) r], [])
theorem Np : Fn Tryz.prog 119 .plain Lf := mkF [] trivial Tryz.func119 (by kernel_rfl) (by kernel_rfl) (by kernel_rfl) 0 fun d => by kernel_rfl
def Vk : Au := As [(true, B8), (true, B8)] (fun d => (U9 d.1 d.2.1).val) fun r => ([rv (false, [.bool]) r], [])
theorem Ah7 : Fn Tryz.prog 175 .plain Vk := mkF [(119, .plain, Lf)] ⟨Np, trivial⟩ Tryz.func175 (by kernel_rfl) (by kernel_rfl) (by kernel_rfl) 0 fun d => by kernel_rfl
def Aci : List (Bool × List Sh) := [(false, [.sl 3 [.int .i64]]), (false, [.sl 3 [.int .i64]])]
def Aqn (r : (Bool × Unit)) : List RV × List RV := ([rv (false, [.bool]) r], [])
def Jy : Fns := []
def Aqo : Au := As Aci (fun d => (L7 d.1 d.2.1).val) Aqn
def Ah8 : Sk := ⟨[(1, .v false [(.sl 3 [.int .i64], .ro)]), (12, .v false [(.sl 3 [.int .i64], .ro)]), (13, .v false [(.int .i64, .nil)]), (14, .v false [(.int .i64, .nil)])], [], []⟩
def Ah9 : List (Ex × Sk) := [(.ret, ⟨[(4, .v false [(.bool, .nil)])], [], []⟩), ((.exit 0), ⟨[], [], []⟩)]
def Acj : Bp := fun i st => cond (Nat.beq i 4) (lam Ah8 5000000 Ah9 R7 st) <| .fail
theorem Azk : ∀ d, bod ⟨A3 tys, A1 Jy, Av Jy, 3, 4⟩ 0 Tryz.f393.ntmps Acj (Ai Tryz.f393 0) Ah8 5000000 Ah9 d = R7 d := fun d => by kernel_rfl
theorem Azl (cx : Cx) (hp : cx.pin.length ≤ 0) : Bh Tryz.prog cx Tryz.f393.ntmps Acj (Ai Tryz.f393 0) := Be (Aq A6 Aw (show A5 Tryz.prog Jy from trivial)) hp (Ax (by kernel_rfl : Ar (Ai Tryz.f393 0) = []) trivial) (by kernel_rfl) Azk
theorem A8q : ∀ d, Bs ⟨A3 tys, A1 Jy, Av Jy, 3, 4⟩ 0 Acj Tryz.f393 .plain (mkA Aci d) = (L7 d.1 d.2.1).run fun r => some (Aqn r) := fun d => by kernel_rfl
theorem A6l : Fn Tryz.prog 393 .plain Aqo := Bu (Aq A6 Aw (show A5 Tryz.prog Jy from trivial)) Tryz.func393 (by kernel_rfl) (by kernel_rfl) (fun cx b hp hb => Ax (by kernel_rfl : Ar (Tryz.f393.body.getD .skip) = [Ai Tryz.f393 0]) ⟨Azl cx hp, trivial⟩ b hb) (R := (Bool × Unit)) (T := fun (d : Bw Aci) => L7 d.1 d.2.1) A8q
def Amd : Au := As [(true, h_6), (true, h_6)] (fun d => (Akw d.1 d.2.1).val) fun r => ([rv (false, [.bool]) r], [])
theorem Aul : Fn Tryz.prog 312 .plain Amd := mkF [(119, .plain, Lf), (393, .plain, Aqo)] ⟨Np, A6l, trivial⟩ Tryz.func312 (by kernel_rfl) (by kernel_rfl) (by kernel_rfl) 0 fun d => by kernel_rfl
def Aia : Au := As [(true, D4)] (fun d => (R8 d.1).val) fun r => ([rv (false, [.bool]) r], [])
theorem Azm : Fn Tryz.prog 176 .plain Aia := mkF [(312, .plain, Amd)] ⟨Aul, trivial⟩ Tryz.func176 (by kernel_rfl) (by kernel_rfl) (by kernel_rfl) 0 fun d => by kernel_rfl
def Ft : Au := As [(false, [.sl 5 [.int .u8]])] (fun d => (Atz d.1).val) fun r => ([rv (false, [.bool]) r], [])
theorem F0 : Fn Tryz.prog 167 .plain Ft := mkF [] trivial Tryz.func167 (by kernel_rfl) (by kernel_rfl) (by kernel_rfl) 0 fun d => by kernel_rfl
def Aum : Au := As [(true, h_1)] (fun d => (Afx d.1).val) fun r => ([rv (false, [.bool]) r], [])
theorem A8r : Fn Tryz.prog 177 .plain Aum := mkF [(83, .plain, B4)] ⟨Bl, trivial⟩ Tryz.func177 (by kernel_rfl) (by kernel_rfl) (by kernel_rfl) 0 fun d => by kernel_rfl
def Nq : Au := As [(false, [.int .i64])] (fun d => (Akx d.1).val) fun r => ([rv (false, [.bool]) r], [])
theorem Om : Fn Tryz.prog 88 .plain Nq := mkF [(83, .plain, B4)] ⟨Bl, trivial⟩ Tryz.func88 (by kernel_rfl) (by kernel_rfl) (by kernel_rfl) 0 fun d => by kernel_rfl
def Azn : Au := As [(false, [.int .i64]), (false, [.int .i64])] (fun d => (Aky d.1 d.2.1).val) fun r => ([rv (false, [.bool]) r], [])
theorem Bck : Fn Tryz.prog 293 .plain Azn := mkF [] trivial Tryz.func293 (by kernel_rfl) (by kernel_rfl) (by kernel_rfl) 0 fun d => by kernel_rfl
def Je : Au := As [(true, B8)] (fun d => (Afy d.1).val) fun r => ([rv (false, [.bool]) r], [])
theorem Jz : Fn Tryz.prog 118 .plain Je := mkF [(83, .plain, B4), (167, .plain, Ft), (88, .plain, Nq), (293, .plain, Azn), (175, .plain, Vk)] ⟨Bl, F0, Om, Bck, Ah7, trivial⟩ Tryz.func118 (by kernel_rfl) (by kernel_rfl) (by kernel_rfl) 0 fun d => by kernel_rfl
def Nr : Au := As [(false, [.int .i64])] (fun d => (Ak0 d.1).val) fun r => ([rv (false, [.bool]) r], [])
theorem On : Fn Tryz.prog 313 .plain Nr := mkF [] trivial Tryz.func313 (by kernel_rfl) (by kernel_rfl) (by kernel_rfl) 0 fun d => by kernel_rfl
def Ack : List (Bool × List Sh) := [(false, [.sl 3 [.int .i64]]), (false, [.int .i64])]
def Aqp (r : (Bool × Unit)) : List RV × List RV := ([rv (false, [.bool]) r], [])
def J0 : Fns := [(83, .plain, B4)]
def Rd : Au := As Ack (fun d => (L8 d.1 d.2.1).val) Aqp
def Aib : Sk := ⟨[(0, .v false [(.sl 3 [.int .i64], .ro)]), (1, .v false [(.int .i64, .nil)]), (7, .v false [(.sl 3 [.int .i64], .ro)]), (8, .v false [(.int .i64, .nil)]), (9, .v false [(.int .i64, .nil)])], [], []⟩
def Aic : List (Ex × Sk) := [(.ret, ⟨[(4, .v false [(.bool, .nil)])], [], []⟩), ((.exit 0), ⟨[(0, .v false [(.sl 3 [.int .i64], .ro)]), (1, .v false [(.int .i64, .nil)])], [], []⟩)]
def Acl : Bp := fun i st => cond (Nat.beq i 2) (lam Aib 3000000 Aic Gw st) <| .fail
theorem Azo : ∀ d, bod ⟨A3 tys, A1 J0, Av J0, 3, 4⟩ 0 Tryz.f429.ntmps Acl (Ai Tryz.f429 0) Aib 3000000 Aic d = Gw d := fun d => by kernel_rfl
theorem Azp (cx : Cx) (hp : cx.pin.length ≤ 0) : Bh Tryz.prog cx Tryz.f429.ntmps Acl (Ai Tryz.f429 0) := Be (Aq A6 Aw (show A5 Tryz.prog J0 from ⟨Bl, trivial⟩)) hp (Ax (by kernel_rfl : Ar (Ai Tryz.f429 0) = []) trivial) (by kernel_rfl) Azo
theorem A8s : ∀ d, Bs ⟨A3 tys, A1 J0, Av J0, 3, 4⟩ 0 Acl Tryz.f429 .plain (mkA Ack d) = (L8 d.1 d.2.1).run fun r => some (Aqp r) := fun d => by kernel_rfl
theorem H9 : Fn Tryz.prog 429 .plain Rd := Bu (Aq A6 Aw (show A5 Tryz.prog J0 from ⟨Bl, trivial⟩)) Tryz.func429 (by kernel_rfl) (by kernel_rfl) (fun cx b hp hb => Ax (by kernel_rfl : Ar (Tryz.f429.body.getD .skip) = [Ai Tryz.f429 0]) ⟨Azp cx hp, trivial⟩ b hb) (R := (Bool × Unit)) (T := fun (d : Bw Ack) => L8 d.1 d.2.1) A8s
def Ame : Au := As [(true, [.int .i64, .sl 3 [.int .i64]]), (false, [.int .i64])] (fun d => (Ak1 d.1 d.2.1).val) fun r => ([rv (false, [.bool]) r], [])
theorem Agt : Fn Tryz.prog 430 .plain Ame := mkF [] trivial Tryz.func430 (by kernel_rfl) (by kernel_rfl) (by kernel_rfl) 0 fun d => by kernel_rfl
def Aqq : List (Bool × List Sh) := [(true, [.int .i64, .sl 3 [.int .i64]])]
def A4t (r : (Bool × Unit)) : List RV × List RV := ([rv (false, [.bool]) r], [])
def Pt : Fns := [(83, .plain, B4), (429, .plain, Rd), (430, .plain, Ame)]
def Aqr : Au := As Aqq (fun d => (Us d.1).val) A4t
def Aun : Sk := ⟨[(1, .box 1 0), (3, .v false [(.int .i64, .nil)])], [(1, [(.int .i64, .nil), (.sl 3 [.int .i64], .ro)])], []⟩
def Auo : List (Ex × Sk) := [(.ret, ⟨[(2, .v false [(.bool, .nil)])], [], []⟩), ((.exit 0), ⟨[(1, .box 1 0)], [(1, [(.int .i64, .nil), (.sl 3 [.int .i64], .ro)])], []⟩)]
def Aqs : Bp := fun i st => cond (Nat.beq i 4) (lam Aun 5000000 Auo Ja st) <| .fail
theorem A8t : ∀ d, bod ⟨A3 tys, A1 Pt, Av Pt, 3, 4⟩ 0 Tryz.f394.ntmps Aqs (Ai Tryz.f394 0) Aun 5000000 Auo d = Ja d := fun d => by kernel_rfl
theorem A8u (cx : Cx) (hp : cx.pin.length ≤ 0) : Bh Tryz.prog cx Tryz.f394.ntmps Aqs (Ai Tryz.f394 0) := Be (Aq A6 Aw (show A5 Tryz.prog Pt from ⟨Bl, H9, Agt, trivial⟩)) hp (Ax (by kernel_rfl : Ar (Ai Tryz.f394 0) = []) trivial) (by kernel_rfl) A8t
theorem Bh5 : ∀ d, Bs ⟨A3 tys, A1 Pt, Av Pt, 3, 4⟩ 0 Aqs Tryz.f394 .plain (mkA Aqq d) = (Us d.1).run fun r => some (A4t r) := fun d => by kernel_rfl
theorem Azq : Fn Tryz.prog 394 .plain Aqr := Bu (Aq A6 Aw (show A5 Tryz.prog Pt from ⟨Bl, H9, Agt, trivial⟩)) Tryz.func394 (by kernel_rfl) (by kernel_rfl) (fun cx b hp hb => Ax (by kernel_rfl : Ar (Tryz.f394.body.getD .skip) = [Ai Tryz.f394 0]) ⟨A8u cx hp, trivial⟩ b hb) (R := (Bool × Unit)) (T := fun (d : Bw Aqq) => Us d.1) Bh5
def Acm : Au := As [(true, h_6)] (fun d => (Av0 d.1).val) fun r => ([rv (false, [.bool]) r], [])
theorem Aed : Fn Tryz.prog 314 .plain Acm := mkF [(83, .plain, B4), (394, .plain, Aqr)] ⟨Bl, Azq, trivial⟩ Tryz.func314 (by kernel_rfl) (by kernel_rfl) (by kernel_rfl) 0 fun d => by kernel_rfl
def A4u : Au := As [(true, D4)] (fun d => (Ao9 d.1).val) fun r => ([rv (false, [.bool]) r], [])
theorem Bfp : Fn Tryz.prog 315 .plain A4u := mkF [(312, .plain, Amd), (314, .plain, Acm), (83, .plain, B4)] ⟨Aul, Aed, Bl, trivial⟩ Tryz.func315 (by kernel_rfl) (by kernel_rfl) (by kernel_rfl) 0 fun d => by kernel_rfl
def Ns : Au := As [(true, D4)] (fun d => (Ak2 d.1).val) fun r => ([rv (false, [.bool]) r], [])
theorem Oo : Fn Tryz.prog 179 .plain Ns := mkF [(313, .plain, Nr), (167, .plain, Ft), (314, .plain, Acm), (315, .plain, A4u)] ⟨On, F0, Aed, Bfp, trivial⟩ Tryz.func179 (by kernel_rfl) (by kernel_rfl) (by kernel_rfl) 0 fun d => by kernel_rfl
def Aqt : Au := As [(true, Fk)] (fun d => (Abk d.1).val) fun r => ([rv (false, [.bool]) r], [])
theorem A6m : Fn Tryz.prog 178 .plain Aqt := mkF [(167, .plain, Ft), (118, .plain, Je), (119, .plain, Lf), (179, .plain, Ns)] ⟨F0, Jz, Np, Oo, trivial⟩ Tryz.func178 (by kernel_rfl) (by kernel_rfl) (by kernel_rfl) 0 fun d => by kernel_rfl
def Aqu : Au := As [(true, Fk)] (fun d => (Abm d.1).val) fun r => ([rv (false, [.bool]) r], [])
theorem A6n : Fn Tryz.prog 38 .plain Aqu := mkF [(83, .plain, B4), (125, .plain, Aec), (84, .plain, Azj), (175, .plain, Vk), (176, .plain, Aia), (167, .plain, Ft), (177, .plain, Aum), (178, .plain, Aqt), (179, .plain, Ns)] ⟨Bl, Amc, Bcj, Ah7, Azm, F0, A8r, A6m, Oo, trivial⟩ Tryz.func38 (by kernel_rfl) (by kernel_rfl) (by kernel_rfl) 0 fun d => by kernel_rfl
def Cw : Au := As [(false, [.sl 5 [.int .u8]])] (fun d => (Apb d.1).val) fun r => ([rv (false, [.sl 5 [.int .u8]]) r], [])
theorem Ca : Fn Tryz.prog 168 .plain Cw := mkF [] trivial Tryz.func168 (by kernel_rfl) (by kernel_rfl) (by kernel_rfl) 0 fun d => by kernel_rfl
def Vl : Au := As [(true, B8)] (fun d => (Va d.1).val) fun r => ([rv (true, B8) r], [])
theorem Aid : Fn Tryz.prog 183 .plain Vl := mkF [(168, .plain, Cw)] ⟨Ca, trivial⟩ Tryz.func183 (by kernel_rfl) (by kernel_rfl) (by kernel_rfl) 0 fun d => by kernel_rfl
def Agu : Au := As [(true, [.int .i64, .sl 3 [.int .i64]])] (fun d => (Afz d.1).val) fun r => ([rv (true, [.int .i64, .sl 3 [.int .i64]]) r], [])
theorem Acn : Fn Tryz.prog 426 .plain Agu := mkF [] trivial Tryz.func426 (by kernel_rfl) (by kernel_rfl) (by kernel_rfl) 0 fun d => by kernel_rfl
def Z7 : Au := As [(true, h_6)] (fun d => (Ak3 d.1).val) fun r => ([rv (true, h_6) r], [])
theorem Agv : Fn Tryz.prog 389 .plain Z7 := mkF [(168, .plain, Cw), (426, .plain, Agu)] ⟨Ca, Acn, trivial⟩ Tryz.func389 (by kernel_rfl) (by kernel_rfl) (by kernel_rfl) 0 fun d => by kernel_rfl
def Re : Au := As [(true, D4)] (fun d => (Abo d.1).val) fun r => ([rv (true, D4) r], [])
theorem Vm : Fn Tryz.prog 309 .plain Re := mkF [(168, .plain, Cw), (389, .plain, Z7)] ⟨Ca, Agv, trivial⟩ Tryz.func309 (by kernel_rfl) (by kernel_rfl) (by kernel_rfl) 0 fun d => by kernel_rfl
def Nt : Au := As [(true, Fk)] (fun d => (Sa d.1).val) fun r => ([rv (true, Fk) r], [])
theorem Rf : Fn Tryz.prog 166 .plain Nt := mkF [(168, .plain, Cw), (183, .plain, Vl), (309, .plain, Re)] ⟨Ca, Aid, Vm, trivial⟩ Tryz.func166 (by kernel_rfl) (by kernel_rfl) (by kernel_rfl) 0 fun d => by kernel_rfl
def A4v : Au := As [] (fun d => (A4a ).val) fun r => ([rv (false, [.sl 3 [.int .i64]]) r], [])
theorem Bfq : Fn Tryz.prog 462 .plain A4v := mkF [] trivial Tryz.func462 (by kernel_rfl) (by kernel_rfl) (by kernel_rfl) 0 fun d => by kernel_rfl
def Aup : Au := As [] (fun d => (At0 ).val) fun r => ([rv (true, h_4) r], [])
theorem A8v : Fn Tryz.prog 452 .plain Aup := mkF [(462, .plain, A4v)] ⟨Bfq, trivial⟩ Tryz.func452 (by kernel_rfl) (by kernel_rfl) (by kernel_rfl) 0 fun d => by kernel_rfl
def Amf : Au := As [(true, h_4)] (fun d => (Ak4 d.1).val) fun r => ([rv (false, [.bool]) r], [])
theorem Auq : Fn Tryz.prog 458 .plain Amf := mkF [(429, .plain, Rd), (83, .plain, B4)] ⟨H9, Bl, trivial⟩ Tryz.func458 (by kernel_rfl) (by kernel_rfl) (by kernel_rfl) 0 fun d => by kernel_rfl
def Amg : List (Bool × List Sh) := [(false, [.sl 22 [.sl 5 [.int .u8]]])]
def Azr (r : (YBs)) : List RV × List RV := ([rv (false, [.sl 5 [.int .u8]]) r], [])
def Nu : Fns := []
def Fu : Au := As Amg (fun d => (Qx d.1).val) Azr
def Aqv : Sk := ⟨[(3, .v false [(.sl 5 [.int .u8], (.own 4000000))]), (7, .v false [(.sl 22 [.sl 5 [.int .u8]], .ro)]), (8, .v false [(.int .i64, .nil)]), (9, .v false [(.int .i64, .nil)])], [], [4000000]⟩
def Aqw : List (Ex × Sk) := [((.exit 0), ⟨[(3, .v false [(.sl 5 [.int .u8], (.own 4000000))])], [], [4000000]⟩)]
def Amh : Bp := fun i st => cond (Nat.beq i 3) (lam Aqv 4000000 Aqw Hk st) <| .fail
theorem A6o : ∀ d, bod ⟨A3 tys, A1 Nu, Av Nu, 3, 4⟩ 0 Tryz.f294.ntmps Amh (Ai Tryz.f294 0) Aqv 4000000 Aqw d = Hk d := fun d => by kernel_rfl
theorem A6p (cx : Cx) (hp : cx.pin.length ≤ 0) : Bh Tryz.prog cx Tryz.f294.ntmps Amh (Ai Tryz.f294 0) := Be (Aq A6 Aw (show A5 Tryz.prog Nu from trivial)) hp (Ax (by kernel_rfl : Ar (Ai Tryz.f294 0) = []) trivial) (by kernel_rfl) A6o
theorem Bfr : ∀ d, Bs ⟨A3 tys, A1 Nu, Av Nu, 3, 4⟩ 0 Amh Tryz.f294 .plain (mkA Amg d) = (Qx d.1).run fun r => some (Azr r) := fun d => by kernel_rfl
theorem Et : Fn Tryz.prog 294 .plain Fu := Bu (Aq A6 Aw (show A5 Tryz.prog Nu from trivial)) Tryz.func294 (by kernel_rfl) (by kernel_rfl) (fun cx b hp hb => Ax (by kernel_rfl : Ar (Tryz.f294.body.getD .skip) = [Ai Tryz.f294 0]) ⟨A6p cx hp, trivial⟩ b hb) (R := (YBs)) (T := fun (d : Bw Amg) => Qx d.1) Bfr
def Bd0 : Au := As [(false, [.sl 5 [.int .u8]]), (false, [.int .i64]), (false, [.int .i64])] (fun d => (A2a d.1 d.2.1 d.2.2.1).val) fun r => ([rv (false, [.sl 5 [.int .u8]]) r.1, rv (false, [.bool]) r.2], [])
theorem A8w : Fn Tryz.prog 383 .plain Bd0 := mkF [] trivial Tryz.func383 (by kernel_rfl) (by kernel_rfl) (by kernel_rfl) 0 fun d => by kernel_rfl
def Awp : List (Bool × List Sh) := [(false, [.sl 5 [.int .u8]]), (false, [.int .i64]), (false, [.int .i64])]
def A8x (r : (YI) × (YI) × (Bool × Unit)) : List RV × List RV := ([rv (false, [.int .i64]) r.1, rv (false, [.int .i64]) r.2.1, rv (false, [.bool]) r.2.2], [])
def Sy : Fns := [(383, .plain, Bd0)]
def A8y : Au := As Awp (fun d => (Abp d.1 d.2.1 d.2.2.1).val) A8x
def Azs : Sk := ⟨[(1, .v false [(.int .i64, .nil)]), (2, .v false [(.int .i64, .nil)]), (11, .v false [(.int .i64, .nil)]), (29, .v false [(.sl 5 [.int .u8], (.own 9000000))]), (30, .v false [(.int .i64, .nil)]), (31, .v false [(.int .i64, .nil)])], [], [9000000]⟩
def Azt : List (Ex × Sk) := [((.exit 0), ⟨[(1, .v false [(.int .i64, .nil)]), (2, .v false [(.int .i64, .nil)]), (11, .v false [(.int .i64, .nil)])], [], []⟩)]
def Awq : Bp := fun i st => cond (Nat.beq i 8) (lam Azs 9000000 Azt Kx st) <| .fail
theorem Bcl : ∀ d, bod ⟨A3 tys, A1 Sy, Av Sy, 3, 4⟩ 0 Tryz.f292.ntmps Awq (Ai Tryz.f292 0) Azs 9000000 Azt d = Kx d := fun d => by kernel_rfl
theorem Bcm (cx : Cx) (hp : cx.pin.length ≤ 0) : Bh Tryz.prog cx Tryz.f292.ntmps Awq (Ai Tryz.f292 0) := Be (Aq A6 Aw (show A5 Tryz.prog Sy from ⟨A8w, trivial⟩)) hp (Ax (by kernel_rfl : Ar (Ai Tryz.f292 0) = []) trivial) (by kernel_rfl) Bcl
theorem Bkm : ∀ d, Bs ⟨A3 tys, A1 Sy, Av Sy, 3, 4⟩ 0 Awq Tryz.f292 .plain (mkA Awp d) = (Abp d.1 d.2.1 d.2.2.1).run fun r => some (A8x r) := fun d => by kernel_rfl
theorem Aqx : Fn Tryz.prog 292 .plain A8y := Bu (Aq A6 Aw (show A5 Tryz.prog Sy from ⟨A8w, trivial⟩)) Tryz.func292 (by kernel_rfl) (by kernel_rfl) (fun cx b hp hb => Ax (by kernel_rfl : Ar (Tryz.f292.body.getD .skip) = [Ai Tryz.f292 0]) ⟨Bcm cx hp, trivial⟩ b hb) (R := (YI) × (YI) × (Bool × Unit)) (T := fun (d : Bw Awp) => Abp d.1 d.2.1 d.2.2.1) Bkm
def A2u : Au := As [(false, [.int .i64]), (false, [.int .i64])] (fun d => (A2c d.1 d.2.1).val) fun r => ([rv (false, [.int .i64]) r], [])
theorem Sz : Fn Tryz.prog 465 .plain A2u := mkF [] trivial Tryz.func465 (by kernel_rfl) (by kernel_rfl) (by kernel_rfl) 0 fun d => by kernel_rfl
def Aco : List (Bool × List Sh) := [(false, [.sl 5 [.int .u8]])]
def Aqy (r : ((List YI) × Unit)) : List RV × List RV := ([rv (false, [.sl 3 [.int .i64]]) r], [])
def E0 : Fns := [(292, .plain, A8y), (465, .plain, A2u)]
def Aqz : Au := As Aco (fun d => (Mb d.1).val) Aqy
def Aie : Sk := ⟨[(3, .v false [(.sl 3 [.int .i64], (.own 10000000))]), (5, .v false [(.int .i64, .nil)])], [], [10000000]⟩
def Aif : List (Ex × Sk) := [((.exit 2), ⟨[(3, .v false [(.sl 3 [.int .i64], (.own 10000000))])], [], [10000000]⟩)]
def Aig : Sk := ⟨[(0, .v false [(.sl 5 [.int .u8], .ro)]), (3, .v false [(.sl 3 [.int .i64], (.own 6000000))]), (4, .v false [(.int .i64, .nil)])], [], [6000000]⟩
def Aih : List (Ex × Sk) := [((.exit 0), ⟨[(3, .v false [(.sl 3 [.int .i64], (.own 6000000))])], [], [6000000]⟩)]
def Mq : Bp := fun i st => cond (Nat.beq i 5) (lam Aig 6000000 Aih Gx st) <| cond (Nat.beq i 9) (lam Aie 10000000 Aif Gy st) <| .fail
theorem Azu : ∀ d, bod ⟨A3 tys, A1 E0, Av E0, 3, 4⟩ 0 Tryz.f464.ntmps Mq (Ai Tryz.f464 0) Aig 6000000 Aih d = Gx d := fun d => by kernel_rfl
theorem Azv (cx : Cx) (hp : cx.pin.length ≤ 0) : Bh Tryz.prog cx Tryz.f464.ntmps Mq (Ai Tryz.f464 0) := Be (Aq A6 Aw (show A5 Tryz.prog E0 from ⟨Aqx, Sz, trivial⟩)) hp (Ax (by kernel_rfl : Ar (Ai Tryz.f464 0) = []) trivial) (by kernel_rfl) Azu
theorem Azw : ∀ d, bod ⟨A3 tys, A1 E0, Av E0, 3, 4⟩ 0 Tryz.f464.ntmps Mq (Ai Tryz.f464 1) Aie 10000000 Aif d = Gy d := fun d => by kernel_rfl
theorem Azx (cx : Cx) (hp : cx.pin.length ≤ 0) : Bh Tryz.prog cx Tryz.f464.ntmps Mq (Ai Tryz.f464 1) := Be (Aq A6 Aw (show A5 Tryz.prog E0 from ⟨Aqx, Sz, trivial⟩)) hp (Ax (by kernel_rfl : Ar (Ai Tryz.f464 1) = []) trivial) (by kernel_rfl) Azw
theorem A8z : ∀ d, Bs ⟨A3 tys, A1 E0, Av E0, 3, 4⟩ 0 Mq Tryz.f464 .plain (mkA Aco d) = (Mb d.1).run fun r => some (Aqy r) := fun d => by kernel_rfl
theorem Vn : Fn Tryz.prog 464 .plain Aqz := Bu (Aq A6 Aw (show A5 Tryz.prog E0 from ⟨Aqx, Sz, trivial⟩)) Tryz.func464 (by kernel_rfl) (by kernel_rfl) (fun cx b hp hb => Ax (by kernel_rfl : Ar (Tryz.f464.body.getD .skip) = [Ai Tryz.f464 0, Ai Tryz.f464 1]) ⟨Azv cx hp, Azx cx hp, trivial⟩ b hb) (R := ((List YI) × Unit)) (T := fun (d : Bw Aco) => Mb d.1) A8z
theorem Bh6 (n : Int) (w : World) (h0 : 0 ≤ n) (h1 : n ≤ 63) :
  Calls Tryz.prog 466 #[.int .i64 n] w (Ret w (.int .i64 (Oq[n.toNat]?.getD 0))) := by
 have hx : ∃ x, Oq[n.toNat]? = some x := ⟨_, List.getElem?_eq_getElem (by simp [Oq]; omega)⟩
 obtain ⟨x, hx⟩ := hx
 have hcell : (Aq0 387 w Azy).cell? ⟨w.heap.size, n.toNat, none⟩ = some (.int .i64 x) := by
  rw [Bcn]; unfold Azy; rw [List.getElem?_toArray, List.getElem?_map, hx]; rfl
 rw [hx]
 go_enter Tryz.func466, Tryz.ntmps466
 go_wp2_with (first | (refine A6q rfl 387 _ rfl Azy (by kernel_rfl) ?_) | (refine A6r rfl 387 rfl _ _ Azz (by kernel_rfl) (by kernel_rfl) (by kernel_rfl) ?_) | (refine A6s rfl 387 _ _ rfl Azy rfl rfl (by kernel_rfl) (by kernel_rfl) (by kernel_rfl) ?_))
 go_ret
 refine Ret.mk rfl ?_
 rw [Bh7]
 exact (Cf.refl _).alloc _
theorem Bh8 (n : Int) (w : World) (h0 : ¬ (0 ≤ n ∧ n ≤ 63)) :
  Calls Tryz.prog 466 #[.int .i64 n] w (Ret w (.int .i64 0)) := by
 by_cases h : n < 0
 ·go_enter Tryz.func466, Tryz.ntmps466
  go_wp2_with fail
  go_ret
  exact Ret.mk rfl (Cf.refl _)
 ·have h2 : 63 < n := by omega
  go_enter Tryz.func466, Tryz.ntmps466
  go_wp2_with fail
  go_ret
  exact Ret.mk rfl (Cf.refl _)
def A6t : List (Bool × List Sh) := [(false, [.int .i64])]
def A6u (r : YI) : List RV × List RV := ([rv (false, [.int .i64]) r], [])
def Aob : Au := As A6t (fun d => (An2 d.1).val) A6u
theorem S1 : Fn Tryz.prog 466 .plain Aob := by
 refine ⟨?_, Tryz.f466, Tryz.func466, by kernel_rfl, by kernel_rfl⟩
 intro rs res vals w G hv hG hr
 obtain ⟨d, x, rfl, h1, h2⟩ := A80 hv
 obtain ⟨⟨n, _⟩, _⟩ := d
 cases h1
 subst h2
 match vals, hr with
 | [v], hr =>
  have e : v = .int .i64 n := hr.1.1.1
  subst e
  refine (?_ : Calls Tryz.prog 466 #[.int .i64 n] w (Ret w (.int .i64 (Ut n)))).mono fun e w' h => Bh9 (Bia n) h
  unfold Ut
  by_cases h : 0 ≤ n ∧ n ≤ 63
  ·rw [if_pos h]; exact Bh6 n w h.1 h.2
  ·rw [if_neg h]; exact Bh8 n w h

def A4w : Au := As [(false, [.int .i64]), (false, [.int .i64])] (fun d => (A4b d.1 d.2.1).val) fun r => ([rv (false, [.int .i64]) r], [])
theorem Ami : Fn Tryz.prog 467 .plain A4w := mkF [] trivial Tryz.func467 (by kernel_rfl) (by kernel_rfl) (by kernel_rfl) 0 fun d => by kernel_rfl
def Acp : List (Bool × List Sh) := [(false, [.sl 3 [.int .i64]]), (false, [.sl 5 [.int .u8]])]
def Aq1 (r : ((List YI) × Unit)) : List RV × List RV := ([rv (false, [.sl 3 [.int .i64]]) r], [])
def E4 : Fns := [(429, .plain, Rd), (464, .plain, Aqz), (465, .plain, A2u), (466, .plain, Aob), (467, .plain, A4w)]
def Aq2 : Au := As Acp (fun d => (Mc d.1 d.2.1).val) Aq1
def Aee : Sk := ⟨[(0, .v false [(.sl 3 [.int .i64], .ro)]), (5, .v false [(.sl 3 [.int .i64], (.own 17000000))]), (133, .v false [(.sl 3 [.int .i64], (.own 17000001))]), (134, .v false [(.int .i64, .nil)]), (135, .v false [(.int .i64, .nil)])], [], [17000000, 17000001]⟩
def Aef : List (Ex × Sk) := [((.exit 2), ⟨[(5, .v false [(.sl 3 [.int .i64], (.own 17000000))])], [], [17000000]⟩)]
def Aii : Sk := ⟨[(0, .v false [(.sl 3 [.int .i64], .ro)]), (5, .v false [(.sl 3 [.int .i64], (.own 8000000))]), (6, .v false [(.sl 3 [.int .i64], (.own 8000001))]), (7, .v false [(.int .i64, .nil)]), (8, .v false [(.int .i64, .nil)]), (9, .v false [(.int .i64, .nil)]), (10, .v false [(.int .i64, .nil)]), (11, .v false [(.int .i64, .nil)]), (12, .v false [(.int .i64, .nil)]), (13, .v false [(.int .i64, .nil)]), (14, .v false [(.int .i64, .nil)]), (15, .v false [(.int .i64, .nil)])], [], [8000000, 8000001]⟩
def Aij : List (Ex × Sk) := [((.exit 0), ⟨[(0, .v false [(.sl 3 [.int .i64], .ro)]), (5, .v false [(.sl 3 [.int .i64], (.own 8000000))]), (7, .v false [(.int .i64, .nil)]), (8, .v false [(.int .i64, .nil)]), (9, .v false [(.int .i64, .nil)]), (10, .v false [(.int .i64, .nil)]), (11, .v false [(.int .i64, .nil)]), (12, .v false [(.int .i64, .nil)]), (13, .v false [(.int .i64, .nil)]), (14, .v false [(.int .i64, .nil)])], [], [8000000]⟩)]
def Mr : Bp := fun i st => cond (Nat.beq i 7) (lam Aii 8000000 Aij Fh st) <| cond (Nat.beq i 16) (lam Aee 17000000 Aef Ev st) <| .fail
theorem Az0 : ∀ d, bod ⟨A3 tys, A1 E4, Av E4, 3, 4⟩ 0 Tryz.f463.ntmps Mr (Ai Tryz.f463 0) Aii 8000000 Aij d = Fh d := fun d => by kernel_rfl
theorem Az1 (cx : Cx) (hp : cx.pin.length ≤ 0) : Bh Tryz.prog cx Tryz.f463.ntmps Mr (Ai Tryz.f463 0) := Be (Aq A6 Aw (show A5 Tryz.prog E4 from ⟨H9, Vn, Sz, S1, Ami, trivial⟩)) hp (Ax (by kernel_rfl : Ar (Ai Tryz.f463 0) = []) trivial) (by kernel_rfl) Az0
theorem Awr : ∀ d, bod ⟨A3 tys, A1 E4, Av E4, 3, 4⟩ 0 Tryz.f463.ntmps Mr (Ai Tryz.f463 1) Aee 17000000 Aef d = Ev d := fun d => by kernel_rfl
theorem Aws (cx : Cx) (hp : cx.pin.length ≤ 0) : Bh Tryz.prog cx Tryz.f463.ntmps Mr (Ai Tryz.f463 1) := Be (Aq A6 Aw (show A5 Tryz.prog E4 from ⟨H9, Vn, Sz, S1, Ami, trivial⟩)) hp (Ax (by kernel_rfl : Ar (Ai Tryz.f463 1) = []) trivial) (by kernel_rfl) Awr
theorem A81 : ∀ d, Bs ⟨A3 tys, A1 E4, Av E4, 3, 4⟩ 0 Mr Tryz.f463 .plain (mkA Acp d) = (Mc d.1 d.2.1).run fun r => some (Aq1 r) := fun d => by kernel_rfl
theorem Aoc : Fn Tryz.prog 463 .plain Aq2 := Bu (Aq A6 Aw (show A5 Tryz.prog E4 from ⟨H9, Vn, Sz, S1, Ami, trivial⟩)) Tryz.func463 (by kernel_rfl) (by kernel_rfl) (fun cx b hp hb => Ax (by kernel_rfl : Ar (Tryz.f463.body.getD .skip) = [Ai Tryz.f463 0, Ai Tryz.f463 1]) ⟨Az1 cx hp, Aws cx hp, trivial⟩ b hb) (R := ((List YI) × Unit)) (T := fun (d : Bw Acp) => Mc d.1 d.2.1) A81
def Rg : List (Bool × List Sh) := [(false, [.sl 3 [.int .i64]]), (false, [.sl 5 [.int .u8]])]
def Aeg (r : ((List YI) × Unit) × (YBs)) : List RV × List RV := ([rv (false, [.sl 3 [.int .i64]]) r.1, rv (false, [.sl 5 [.int .u8]]) r.2], [])
def Ga : Fns := [(463, .plain, Aq2)]
def Rh : Au := As Rg (fun d => (Il d.1 d.2.1).val) Aeg
def Zs : Sk := ⟨[(0, .v false [(.sl 3 [.int .i64], .rd)]), (1, .v false [(.sl 5 [.int .u8], .ro)])], [], []⟩
def Zt : List (Ex × Sk) := [((.exit 0), ⟨[(0, .v false [(.sl 3 [.int .i64], .rd)]), (1, .v false [(.sl 5 [.int .u8], .ro)])], [], []⟩)]
def Ri : Bp := fun i st => cond (Nat.beq i 1) (lam Zs 2000000 Zt Dl st) <| .fail
theorem Aq3 : ∀ d, bod ⟨A3 tys, A1 Ga, Av Ga, 3, 4⟩ 0 Tryz.f459.ntmps Ri (Ai Tryz.f459 0) Zs 2000000 Zt d = Dl d := fun d => by kernel_rfl
theorem Aq4 (cx : Cx) (hp : cx.pin.length ≤ 0) : Bh Tryz.prog cx Tryz.f459.ntmps Ri (Ai Tryz.f459 0) := Be (Aq A6 Aw (show A5 Tryz.prog Ga from ⟨Aoc, trivial⟩)) hp (Ax (by kernel_rfl : Ar (Ai Tryz.f459 0) = []) trivial) (by kernel_rfl) Aq3
theorem Az2 : ∀ d, Bs ⟨A3 tys, A1 Ga, Av Ga, 3, 4⟩ 0 Ri Tryz.f459 .view (mkA Rg d) = (Il d.1 d.2.1).run fun r => some (Aeg r) := fun d => by kernel_rfl
theorem Acq : Fn Tryz.prog 459 .view Rh := Bu (Aq A6 Aw (show A5 Tryz.prog Ga from ⟨Aoc, trivial⟩)) Tryz.func459 (by kernel_rfl) (by kernel_rfl) (fun cx b hp hb => Ax (by kernel_rfl : Ar (Tryz.f459.body.getD .skip) = [Ai Tryz.f459 0]) ⟨Aq4 cx hp, trivial⟩ b hb) (R := ((List YI) × Unit) × (YBs)) (T := fun (d : Bw Rg) => Il d.1 d.2.1) Az2
def Aur : Au := As [(true, h_4), (false, [.sl 5 [.int .u8]])] (fun d => (Af0 d.1 d.2.1).val) fun r => ([rv (true, h_4) r], [])
theorem A82 : Fn Tryz.prog 451 .plain Aur := mkF [(458, .plain, Amf), (168, .plain, Cw), (294, .plain, Fu), (459, .view, Rh)] ⟨Auq, Ca, Et, Acq, trivial⟩ Tryz.func451 (by kernel_rfl) (by kernel_rfl) (by kernel_rfl) 0 fun d => by kernel_rfl
def Awt : List (Bool × List Sh) := [(false, [.sl 5 [.int .u8]]), (false, [.int .i64]), (false, [.int .i64])]
def A83 (r : (YBs)) : List RV × List RV := ([rv (false, [.sl 5 [.int .u8]]) r], [])
def S2 : Fns := []
def S3 : Au := As Awt (fun d => (Ak6 d.1 d.2.1 d.2.2.1).val) A83
def Az3 : Sk := ⟨[(1, .v false [(.int .i64, .nil)]), (7, .v false [(.sl 5 [.int .u8], (.own 6000000))]), (8, .v false [(.int .i64, .nil)])], [], [6000000]⟩
def Az4 : List (Ex × Sk) := [((.exit 0), ⟨[(7, .v false [(.sl 5 [.int .u8], (.own 6000000))])], [], [6000000]⟩)]
def Awu : Bp := fun i st => cond (Nat.beq i 5) (lam Az3 6000000 Az4 Ak5 st) <| .fail
theorem Bco : ∀ d, bod ⟨A3 tys, A1 S2, Av S2, 3, 4⟩ 0 Tryz.f295.ntmps Awu (Ai Tryz.f295 0) Az3 6000000 Az4 d = Ak5 d := fun d => by kernel_rfl
theorem Bcp (cx : Cx) (hp : cx.pin.length ≤ 0) : Bh Tryz.prog cx Tryz.f295.ntmps Awu (Ai Tryz.f295 0) := Be (Aq A6 Aw (show A5 Tryz.prog S2 from trivial)) hp (Ax (by kernel_rfl : Ar (Ai Tryz.f295 0) = []) trivial) (by kernel_rfl) Bco
theorem Bkn : ∀ d, Bs ⟨A3 tys, A1 S2, Av S2, 3, 4⟩ 0 Awu Tryz.f295 .plain (mkA Awt d) = (Ak6 d.1 d.2.1 d.2.2.1).run fun r => some (A83 r) := fun d => by kernel_rfl
theorem Ms : Fn Tryz.prog 295 .plain S3 := Bu (Aq A6 Aw (show A5 Tryz.prog S2 from trivial)) Tryz.func295 (by kernel_rfl) (by kernel_rfl) (fun cx b hp hb => Ax (by kernel_rfl : Ar (Tryz.f295.body.getD .skip) = [Ai Tryz.f295 0]) ⟨Bcp cx hp, trivial⟩ b hb) (R := (YBs)) (T := fun (d : Bw Awt) => Ak6 d.1 d.2.1 d.2.2.1) Bkn
def A2v : List (Bool × List Sh) := [(false, [.int .i64])]
def Bd1 (r : (YBs)) : List RV × List RV := ([rv (false, [.sl 5 [.int .u8]]) r], [])
def Aah : Fns := [(83, .plain, B4), (295, .plain, S3)]
def Bd2 : Au := As A2v (fun d => (Ahr d.1).val) Bd1
def A4x : Sk := ⟨[(0, .v false [(.int .i64, .nil)]), (3, .v false [(.sl 5 [.int .u8], (.own 5000000))])], [], [5000000]⟩
def A4y : List (Ex × Sk) := [((.exit 0), ⟨[(0, .v false [(.int .i64, .nil)]), (3, .v false [(.sl 5 [.int .u8], (.own 5000000))])], [], [5000000]⟩)]
def A2w : Bp := fun i st => cond (Nat.beq i 4) (lam A4x 5000000 A4y Ki st) <| .fail
theorem Bfs : ∀ d, bod ⟨A3 tys, A1 Aah, Av Aah, 3, 4⟩ 0 Tryz.f460.ntmps A2w (Ai Tryz.f460 0) A4x 5000000 A4y d = Ki d := fun d => by kernel_rfl
theorem Bft (cx : Cx) (hp : cx.pin.length ≤ 0) : Bh Tryz.prog cx Tryz.f460.ntmps A2w (Ai Tryz.f460 0) := Be (Aq A6 Aw (show A5 Tryz.prog Aah from ⟨Bl, Ms, trivial⟩)) hp (Ax (by kernel_rfl : Ar (Ai Tryz.f460 0) = []) trivial) (by kernel_rfl) Bfs
theorem Bml : ∀ d, Bs ⟨A3 tys, A1 Aah, Av Aah, 3, 4⟩ 0 A2w Tryz.f460 .plain (mkA A2v d) = (Ahr d.1).run fun r => some (Bd1 r) := fun d => by kernel_rfl
theorem Bko : Fn Tryz.prog 460 .plain Bd2 := Bu (Aq A6 Aw (show A5 Tryz.prog Aah from ⟨Bl, Ms, trivial⟩)) Tryz.func460 (by kernel_rfl) (by kernel_rfl) (fun cx b hp hb => Ax (by kernel_rfl : Ar (Tryz.f460.body.getD .skip) = [Ai Tryz.f460 0]) ⟨Bft cx hp, trivial⟩ b hb) (R := (YBs)) (T := fun (d : Bw A2v) => Ahr d.1) Bml
def Vo : List (Bool × List Sh) := [(false, [.sl 3 [.int .i64]])]
def Aod (r : (YBs)) : List RV × List RV := ([rv (false, [.sl 5 [.int .u8]]) r], [])
def Ia : Fns := [(295, .plain, S3)]
def Aoe : Au := As Vo (fun d => (K9 d.1).val) Aod
def Aeh : Sk := ⟨[(3, .v false [(.sl 5 [.int .u8], (.own 4000000))]), (7, .v false [(.sl 3 [.int .i64], .ro)]), (8, .v false [(.int .i64, .nil)]), (9, .v false [(.int .i64, .nil)])], [], [4000000]⟩
def Aei : List (Ex × Sk) := [((.exit 0), ⟨[(3, .v false [(.sl 5 [.int .u8], (.own 4000000))])], [], [4000000]⟩)]
def Vp : Bp := fun i st => cond (Nat.beq i 3) (lam Aeh 4000000 Aei Ew st) <| .fail
theorem Awv : ∀ d, bod ⟨A3 tys, A1 Ia, Av Ia, 3, 4⟩ 0 Tryz.f461.ntmps Vp (Ai Tryz.f461 0) Aeh 4000000 Aei d = Ew d := fun d => by kernel_rfl
theorem Aww (cx : Cx) (hp : cx.pin.length ≤ 0) : Bh Tryz.prog cx Tryz.f461.ntmps Vp (Ai Tryz.f461 0) := Be (Aq A6 Aw (show A5 Tryz.prog Ia from ⟨Ms, trivial⟩)) hp (Ax (by kernel_rfl : Ar (Ai Tryz.f461 0) = []) trivial) (by kernel_rfl) Awv
theorem A6v : ∀ d, Bs ⟨A3 tys, A1 Ia, Av Ia, 3, 4⟩ 0 Vp Tryz.f461 .plain (mkA Vo d) = (K9 d.1).run fun r => some (Aod r) := fun d => by kernel_rfl
theorem A2x : Fn Tryz.prog 461 .plain Aoe := Bu (Aq A6 Aw (show A5 Tryz.prog Ia from ⟨Ms, trivial⟩)) Tryz.func461 (by kernel_rfl) (by kernel_rfl) (fun cx b hp hb => Ax (by kernel_rfl : Ar (Tryz.f461.body.getD .skip) = [Ai Tryz.f461 0]) ⟨Aww cx hp, trivial⟩ b hb) (R := (YBs)) (T := fun (d : Bw Vo) => K9 d.1) A6v
def Aus : Au := As [(true, h_4)] (fun d => (Af2 d.1).val) fun r => ([rv (false, [.sl 5 [.int .u8]]) r], [])
theorem A84 : Fn Tryz.prog 450 .plain Aus := mkF [(458, .plain, Amf), (460, .plain, Bd2), (294, .plain, Fu), (459, .view, Rh), (461, .plain, Aoe)] ⟨Auq, Bko, Et, Acq, A2x, trivial⟩ Tryz.func450 (by kernel_rfl) (by kernel_rfl) (by kernel_rfl) 0 fun d => by kernel_rfl
def A2y : Au := As [(false, [.sl 5 [.int .u8]])] (fun d => (A2e d.1).val) fun r => ([rv (false, [.sl 5 [.int .u8]]) r], [])
theorem Awx : Fn Tryz.prog 442 .plain A2y := mkF [(452, .plain, Aup), (451, .plain, Aur), (450, .plain, Aus)] ⟨A8v, A82, A84, trivial⟩ Tryz.func442 (by kernel_rfl) (by kernel_rfl) (by kernel_rfl) 0 fun d => by kernel_rfl
def Acr : List (Bool × List Sh) := [(false, [.sl 5 [.int .u8]])]
def Aq5 (r : (YBs)) : List RV × List RV := ([rv (false, [.sl 5 [.int .u8]]) r], [])
def J1 : Fns := [(168, .plain, Cw), (442, .plain, A2y)]
def Aq6 : Au := As Acr (fun d => (Me d.1).val) Aq5
def Aik : Sk := ⟨[(3, .v false [(.sl 5 [.int .u8], (.own 7000000))])], [], [7000000]⟩
def Ail : List (Ex × Sk) := [((.exit 0), ⟨[(3, .v false [(.sl 5 [.int .u8], (.own 7000000))])], [], [7000000]⟩)]
def Acs : Bp := fun i st => cond (Nat.beq i 6) (lam Aik 7000000 Ail Dx st) <| .fail
theorem Az5 : ∀ d, bod ⟨A3 tys, A1 J1, Av J1, 3, 4⟩ 0 Tryz.f441.ntmps Acs (Ai Tryz.f441 0) Aik 7000000 Ail d = Dx d := fun d => by kernel_rfl
theorem Az6 (cx : Cx) (hp : cx.pin.length ≤ 0) : Bh Tryz.prog cx Tryz.f441.ntmps Acs (Ai Tryz.f441 0) := Be (Aq A6 Aw (show A5 Tryz.prog J1 from ⟨Ca, Awx, trivial⟩)) hp (Ax (by kernel_rfl : Ar (Ai Tryz.f441 0) = []) trivial) (by kernel_rfl) Az5
theorem A85 : ∀ d, Bs ⟨A3 tys, A1 J1, Av J1, 3, 4⟩ 0 Acs Tryz.f441 .plain (mkA Acr d) = (Me d.1).run fun r => some (Aq5 r) := fun d => by kernel_rfl
theorem A6w : Fn Tryz.prog 441 .plain Aq6 := Bu (Aq A6 Aw (show A5 Tryz.prog J1 from ⟨Ca, Awx, trivial⟩)) Tryz.func441 (by kernel_rfl) (by kernel_rfl) (fun cx b hp hb => Ax (by kernel_rfl : Ar (Tryz.f441.body.getD .skip) = [Ai Tryz.f441 0]) ⟨Az6 cx hp, trivial⟩ b hb) (R := (YBs)) (T := fun (d : Bw Acr) => Me d.1) A85
def Amj : List (Bool × List Sh) := [(false, [.sl 5 [.int .u8]]), (false, [.int .u8])]
def Az7 (r : (YBs)) : List RV × List RV := ([rv (false, [.sl 5 [.int .u8]]) r], [])
def Nv : Fns := []
def Az8 : Au := As Amj (fun d => (Qy d.1 d.2.1).val) Az7
def Aq7 : Sk := ⟨[(1, .v false [(.int .u8, .nil)]), (5, .v false [(.sl 5 [.int .u8], (.own 4000000))]), (9, .v false [(.sl 5 [.int .u8], .ro)]), (10, .v false [(.int .i64, .nil)]), (11, .v false [(.int .i64, .nil)])], [], [4000000]⟩
def Aq8 : List (Ex × Sk) := [((.exit 0), ⟨[(5, .v false [(.sl 5 [.int .u8], (.own 4000000))])], [], [4000000]⟩)]
def Amk : Bp := fun i st => cond (Nat.beq i 3) (lam Aq7 4000000 Aq8 Hl st) <| .fail
theorem A6x : ∀ d, bod ⟨A3 tys, A1 Nv, Av Nv, 3, 4⟩ 0 Tryz.f443.ntmps Amk (Ai Tryz.f443 0) Aq7 4000000 Aq8 d = Hl d := fun d => by kernel_rfl
theorem A6y (cx : Cx) (hp : cx.pin.length ≤ 0) : Bh Tryz.prog cx Tryz.f443.ntmps Amk (Ai Tryz.f443 0) := Be (Aq A6 Aw (show A5 Tryz.prog Nv from trivial)) hp (Ax (by kernel_rfl : Ar (Ai Tryz.f443 0) = []) trivial) (by kernel_rfl) A6x
theorem Bfu : ∀ d, Bs ⟨A3 tys, A1 Nv, Av Nv, 3, 4⟩ 0 Amk Tryz.f443 .plain (mkA Amj d) = (Qy d.1 d.2.1).run fun r => some (Az7 r) := fun d => by kernel_rfl
theorem Bcq : Fn Tryz.prog 443 .plain Az8 := Bu (Aq A6 Aw (show A5 Tryz.prog Nv from trivial)) Tryz.func443 (by kernel_rfl) (by kernel_rfl) (fun cx b hp hb => Ax (by kernel_rfl : Ar (Tryz.f443.body.getD .skip) = [Ai Tryz.f443 0]) ⟨A6y cx hp, trivial⟩ b hb) (R := (YBs)) (T := fun (d : Bw Amj) => Qy d.1 d.2.1) Bfu
def Acu : Au := As [(false, [.sl 5 [.int .u8]]), (false, [.sl 5 [.int .u8]])] (fun d => (Av2 d.1 d.2.1).val) fun r => ([rv (false, [.sl 5 [.int .u8]]) r], [])
theorem Ux : Fn Tryz.prog 419 .plain Acu := mkF [(441, .plain, Aq6), (443, .plain, Az8), (294, .plain, Fu), (442, .plain, A2y)] ⟨A6w, Bcq, Et, Awx, trivial⟩ Tryz.func419 (by kernel_rfl) (by kernel_rfl) (by kernel_rfl) 0 fun d => by kernel_rfl
def Agw : Au := As [(false, [.sl 5 [.int .u8]]), (false, [.sl 5 [.int .u8]])] (fun d => (Tu d.1 d.2.1).val) fun r => ([rv (false, [.sl 5 [.int .u8]]) r], [])
theorem Aq9 : Fn Tryz.prog 379 .plain Agw := mkF [(419, .plain, Acu)] ⟨Ux, trivial⟩ Tryz.func379 (by kernel_rfl) (by kernel_rfl) (by kernel_rfl) 0 fun d => by kernel_rfl
def Aml : List (Bool × List Sh) := [(false, [.sl 5 [.int .u8]]), (false, [.sl 5 [.int .u8]]), (false, [.int .i64])]
def Az9 (r : (YBs) × (Bool × Unit)) : List RV × List RV := ([rv (false, [.sl 5 [.int .u8]]) r.1, rv (false, [.bool]) r.2], [])
def Nw : Fns := [(83, .plain, B4), (294, .plain, Fu), (419, .plain, Acu), (168, .plain, Cw)]
def A0a : Au := As Aml (fun d => (Qz d.1 d.2.1 d.2.2.1).val) Az9
def Ara : Sk := ⟨[(0, .v false [(.sl 5 [.int .u8], .ro)]), (1, .v false [(.sl 5 [.int .u8], .ro)]), (2, .v false [(.int .i64, .nil)]), (8, .v false [(.sl 5 [.int .u8], (.own 7000000))]), (9, .v false [(.sl 5 [.int .u8], (.own 7000001))]), (10, .v false [(.int .i64, .nil)])], [], [7000000, 7000001]⟩
def Arb : List (Ex × Sk) := [((.exit 0), ⟨[(2, .v false [(.int .i64, .nil)]), (8, .v false [(.sl 5 [.int .u8], (.own 7000000))])], [], [7000000]⟩)]
def Amm : Bp := fun i st => cond (Nat.beq i 6) (lam Ara 7000000 Arb Hm st) <| .fail
theorem A6z : ∀ d, bod ⟨A3 tys, A1 Nw, Av Nw, 3, 4⟩ 0 Tryz.f420.ntmps Amm (Ai Tryz.f420 0) Ara 7000000 Arb d = Hm d := fun d => by kernel_rfl
theorem A60 (cx : Cx) (hp : cx.pin.length ≤ 0) : Bh Tryz.prog cx Tryz.f420.ntmps Amm (Ai Tryz.f420 0) := Be (Aq A6 Aw (show A5 Tryz.prog Nw from ⟨Bl, Et, Ux, Ca, trivial⟩)) hp (Ax (by kernel_rfl : Ar (Ai Tryz.f420 0) = []) trivial) (by kernel_rfl) A6z
theorem Bfv : ∀ d, Bs ⟨A3 tys, A1 Nw, Av Nw, 3, 4⟩ 0 Amm Tryz.f420 .plain (mkA Aml d) = (Qz d.1 d.2.1 d.2.2.1).run fun r => some (Az9 r) := fun d => by kernel_rfl
theorem Bcr : Fn Tryz.prog 420 .plain A0a := Bu (Aq A6 Aw (show A5 Tryz.prog Nw from ⟨Bl, Et, Ux, Ca, trivial⟩)) Tryz.func420 (by kernel_rfl) (by kernel_rfl) (fun cx b hp hb => Ax (by kernel_rfl : Ar (Tryz.f420.body.getD .skip) = [Ai Tryz.f420 0]) ⟨A60 cx hp, trivial⟩ b hb) (R := (YBs) × (Bool × Unit)) (T := fun (d : Bw Aml) => Qz d.1 d.2.1 d.2.2.1) Bfv
def Z8 : Au := As [(false, [.sl 5 [.int .u8]]), (false, [.str])] (fun d => (Ak8 d.1 d.2.1).val) fun r => ([rv (false, [.sl 5 [.int .u8]]) r], [])
theorem T4 : Fn Tryz.prog 378 .plain Z8 := mkF [(420, .plain, A0a)] ⟨Bcr, trivial⟩ Tryz.func378 (by kernel_rfl) (by kernel_rfl) (by kernel_rfl) 0 fun d => by kernel_rfl
def Vq : Au := As [(false, [.sl 5 [.int .u8]])] (fun d => (Vc d.1).val) fun r => ([rv (false, [.sl 5 [.int .u8]]) r], [])
theorem Aim : Fn Tryz.prog 269 .plain Vq := mkF [(125, .plain, Aec), (379, .plain, Agw), (378, .plain, Z8)] ⟨Amc, Aq9, T4, trivial⟩ Tryz.func269 (by kernel_rfl) (by kernel_rfl) (by kernel_rfl) 0 fun d => by kernel_rfl
def Vr : Au := As [(false, [.int .i64]), (false, [.sl 5 [.int .u8]]), (false, [.sl 5 [.int .u8]]), (false, [.int .i64]), (false, [.sl 5 [.int .u8]])] (fun d => (Vd d.1 d.2.1 d.2.2.1 d.2.2.2.1 d.2.2.2.2.1).val) fun r => ([rv (false, [.sl 5 [.int .u8]]) r], [])
theorem Ain : Fn Tryz.prog 270 .plain Vr := mkF [(83, .plain, B4), (167, .plain, Ft), (295, .plain, S3), (294, .plain, Fu)] ⟨Bl, F0, Ms, Et, trivial⟩ Tryz.func270 (by kernel_rfl) (by kernel_rfl) (by kernel_rfl) 0 fun d => by kernel_rfl
def As5 : Au := As [(false, [.sl 5 [.int .u8]]), (false, [.sl 5 [.int .u8]])] (fun d => (A2f d.1 d.2.1).val) fun r => ([rv (false, [.sl 5 [.int .u8]]) r], [])
theorem Awy : Fn Tryz.prog 372 .plain As5 := mkF [(419, .plain, Acu), (168, .plain, Cw)] ⟨Ux, Ca, trivial⟩ Tryz.func372 (by kernel_rfl) (by kernel_rfl) (by kernel_rfl) 0 fun d => by kernel_rfl
def A4z : Au := As [(false, [.sl 5 [.int .u8]]), (false, [.int .i64]), (false, [.sl 5 [.int .u8]]), (false, [.sl 5 [.int .u8]]), (false, [.int .i64]), (false, [.sl 5 [.int .u8]])] (fun d => (Apc d.1 d.2.1 d.2.2.1 d.2.2.2.1 d.2.2.2.2.1 d.2.2.2.2.2.1).val) fun r => ([rv (false, [.sl 5 [.int .u8]]) r], [])
theorem Bfw : Fn Tryz.prog 376 .plain A4z := mkF [(269, .plain, Vq), (270, .plain, Vr), (372, .plain, As5)] ⟨Aim, Ain, Awy, trivial⟩ Tryz.func376 (by kernel_rfl) (by kernel_rfl) (by kernel_rfl) 0 fun d => by kernel_rfl
def Arc : Au := As [(false, [.sl 5 [.int .u8]]), (false, [.int .i64]), (true, B8)] (fun d => (Abs d.1 d.2.1 d.2.2.1).val) fun r => ([rv (true, B8) r.1, rv (false, [.bool]) r.2], [])
theorem A61 : Fn Tryz.prog 324 .plain Arc := mkF [(118, .plain, Je), (376, .plain, A4z), (168, .plain, Cw)] ⟨Jz, Bfw, Ca, trivial⟩ Tryz.func324 (by kernel_rfl) (by kernel_rfl) (by kernel_rfl) 0 fun d => by kernel_rfl
def Ard : Au := As [(false, [.int .i64])] (fun d => (Abu d.1).val) fun r => ([rv (true, h_1) r], [])
theorem A62 : Fn Tryz.prog 169 .plain Ard := mkF [(83, .plain, B4)] ⟨Bl, trivial⟩ Tryz.func169 (by kernel_rfl) (by kernel_rfl) (by kernel_rfl) 0 fun d => by kernel_rfl
def Aut : Au := As [(false, [.sl 5 [.int .u8]]), (false, [.sl 5 [.int .u8]]), (false, [.sl 5 [.int .u8]])] (fun d => (Af4 d.1 d.2.1 d.2.2.1).val) fun r => ([rv (false, [.sl 5 [.int .u8]]) r], [])
theorem A86 : Fn Tryz.prog 398 .plain Aut := mkF [(125, .plain, Aec), (167, .plain, Ft), (294, .plain, Fu), (379, .plain, Agw)] ⟨Amc, F0, Et, Aq9, trivial⟩ Tryz.func398 (by kernel_rfl) (by kernel_rfl) (by kernel_rfl) 0 fun d => by kernel_rfl
def Are : Au := As [(false, [.sl 5 [.int .u8]])] (fun d => (Abw d.1).val) fun r => ([rv (false, [.sl 5 [.int .u8]]) r], [])
theorem A63 : Fn Tryz.prog 397 .plain Are := mkF [(378, .plain, Z8)] ⟨T4, trivial⟩ Tryz.func397 (by kernel_rfl) (by kernel_rfl) (by kernel_rfl) 0 fun d => by kernel_rfl
def Arf : List (Bool × List Sh) := [(false, [.sl 5 [.int .u8]]), (false, [.int .i64])]
def A40 (r : (YBs)) : List RV × List RV := ([rv (false, [.sl 5 [.int .u8]]) r], [])
def Pu : Fns := [(83, .plain, B4), (168, .plain, Cw), (378, .plain, Z8)]
def A41 : Au := As Arf (fun d => (Uu d.1 d.2.1).val) A40
def Auu : Sk := ⟨[(1, .v false [(.int .i64, .nil)]), (5, .v false [(.sl 5 [.int .u8], (.own 6000000))]), (6, .v false [(.int .i64, .nil)])], [], [6000000]⟩
def Auv : List (Ex × Sk) := [((.exit 0), ⟨[(5, .v false [(.sl 5 [.int .u8], (.own 6000000))])], [], [6000000]⟩)]
def Arg : Bp := fun i st => cond (Nat.beq i 5) (lam Auu 6000000 Auv Jc st) <| .fail
theorem A87 : ∀ d, bod ⟨A3 tys, A1 Pu, Av Pu, 3, 4⟩ 0 Tryz.f399.ntmps Arg (Ai Tryz.f399 0) Auu 6000000 Auv d = Jc d := fun d => by kernel_rfl
theorem A88 (cx : Cx) (hp : cx.pin.length ≤ 0) : Bh Tryz.prog cx Tryz.f399.ntmps Arg (Ai Tryz.f399 0) := Be (Aq A6 Aw (show A5 Tryz.prog Pu from ⟨Bl, Ca, T4, trivial⟩)) hp (Ax (by kernel_rfl : Ar (Ai Tryz.f399 0) = []) trivial) (by kernel_rfl) A87
theorem Bib : ∀ d, Bs ⟨A3 tys, A1 Pu, Av Pu, 3, 4⟩ 0 Arg Tryz.f399 .plain (mkA Arf d) = (Uu d.1 d.2.1).run fun r => some (A40 r) := fun d => by kernel_rfl
theorem Bfx : Fn Tryz.prog 399 .plain A41 := Bu (Aq A6 Aw (show A5 Tryz.prog Pu from ⟨Bl, Ca, T4, trivial⟩)) Tryz.func399 (by kernel_rfl) (by kernel_rfl) (fun cx b hp hb => Ax (by kernel_rfl : Ar (Tryz.f399.body.getD .skip) = [Ai Tryz.f399 0]) ⟨A88 cx hp, trivial⟩ b hb) (R := (YBs)) (T := fun (d : Bw Arf) => Uu d.1 d.2.1) Bib
def Arh : Au := As [(false, [.sl 5 [.int .u8]]), (false, [.sl 5 [.int .u8]]), (false, [.sl 5 [.int .u8]]), (false, [.int .i64])] (fun d => (Aby d.1 d.2.1 d.2.2.1 d.2.2.2.1).val) fun r => ([rv (false, [.sl 5 [.int .u8]]) r], [])
theorem A64 : Fn Tryz.prog 326 .plain Arh := mkF [(398, .plain, Aut), (397, .plain, Are), (399, .plain, A41)] ⟨A86, A63, Bfx, trivial⟩ Tryz.func326 (by kernel_rfl) (by kernel_rfl) (by kernel_rfl) 0 fun d => by kernel_rfl
def A0b : Au := As [] (fun d => (Ak9 ).val) fun r => ([rv (true, [.int .i64, .sl 3 [.int .i64]]) r], [])
theorem Bcs : Fn Tryz.prog 401 .plain A0b := mkF [] trivial Tryz.func401 (by kernel_rfl) (by kernel_rfl) (by kernel_rfl) 0 fun d => by kernel_rfl
def Ari : Au := As [(false, [.int .i64]), (false, [.sl 5 [.int .u8]])] (fun d => (Ad0 d.1 d.2.1).val) fun r => ([rv (true, h_6) r], [])
theorem A0c : Fn Tryz.prog 335 .plain Ari := mkF [(83, .plain, B4), (168, .plain, Cw), (401, .plain, A0b)] ⟨Bl, Ca, Bcs, trivial⟩ Tryz.func335 (by kernel_rfl) (by kernel_rfl) (by kernel_rfl) 0 fun d => by kernel_rfl
def Auw : Au := As [(false, [.int .i64]), (false, [.sl 5 [.int .u8]]), (false, [.sl 5 [.int .u8]])] (fun d => (Af6 d.1 d.2.1 d.2.2.1).val) fun r => ([rv (true, D4) r], [])
theorem A89 : Fn Tryz.prog 325 .plain Auw := mkF [(313, .plain, Nr), (167, .plain, Ft), (168, .plain, Cw), (335, .plain, Ari)] ⟨On, F0, Ca, A0c, trivial⟩ Tryz.func325 (by kernel_rfl) (by kernel_rfl) (by kernel_rfl) 0 fun d => by kernel_rfl
def Awz : Au := As [(false, [.sl 5 [.int .u8]]), (false, [.sl 5 [.int .u8]])] (fun d => (Av3 d.1 d.2.1).val) fun r => ([rv (true, h_9) r], [])
theorem A42 : Fn Tryz.prog 261 .plain Awz := mkF [(168, .plain, Cw)] ⟨Ca, trivial⟩ Tryz.func261 (by kernel_rfl) (by kernel_rfl) (by kernel_rfl) 0 fun d => by kernel_rfl
def Aio : Au := As [(true, Fk), (false, [.int .i64]), (true, B8)] (fun d => (Sc d.1 d.2.1 d.2.2.1).val) fun r => ([rv (true, Fk) r.1, rv (false, [.sl 44 B8]) r.2.1, rv (false, [.sl 93 h_9]) r.2.2], [])
theorem A0d : Fn Tryz.prog 190 .plain Aio := mkF [(166, .plain, Nt), (324, .plain, Arc), (169, .plain, Ard), (326, .plain, Arh), (325, .plain, Auw), (168, .plain, Cw), (269, .plain, Vq), (270, .plain, Vr), (261, .plain, Awz), (183, .plain, Vl)] ⟨Rf, A61, A62, A64, A89, Ca, Aim, Ain, A42, Aid, trivial⟩ Tryz.func190 (by kernel_rfl) (by kernel_rfl) (by kernel_rfl) 0 fun d => by kernel_rfl
def Aw0 : List (Bool × List Sh) := [(false, [.sl 5 [.int .u8]]), (false, [.sl 5 [.int .u8]])]
def A9a (r : (YI)) : List RV × List RV := ([rv (false, [.int .i64]) r], [])
def S4 : Fns := []
def Aw1 : Au := As Aw0 (fun d => (Ab0 d.1 d.2.1).val) A9a
def A0e : Sk := ⟨[(0, .v false [(.sl 5 [.int .u8], .ro)]), (1, .v false [(.sl 5 [.int .u8], .ro)]), (5, .v false [(.int .i64, .nil)]), (13, .v false [(.int .i64, .nil)]), (14, .v false [(.int .i64, .nil)])], [], []⟩
def A0f : List (Ex × Sk) := [((.exit 0), ⟨[(5, .v false [(.int .i64, .nil)])], [], []⟩)]
def Aw2 : Bp := fun i st => cond (Nat.beq i 5) (lam A0e 6000000 A0f Nc st) <| .fail
theorem Bct : ∀ d, bod ⟨A3 tys, A1 S4, Av S4, 3, 4⟩ 0 Tryz.f334.ntmps Aw2 (Ai Tryz.f334 0) A0e 6000000 A0f d = Nc d := fun d => by kernel_rfl
theorem Bcu (cx : Cx) (hp : cx.pin.length ≤ 0) : Bh Tryz.prog cx Tryz.f334.ntmps Aw2 (Ai Tryz.f334 0) := Be (Aq A6 Aw (show A5 Tryz.prog S4 from trivial)) hp (Ax (by kernel_rfl : Ar (Ai Tryz.f334 0) = []) trivial) (by kernel_rfl) Bct
theorem Bkp : ∀ d, Bs ⟨A3 tys, A1 S4, Av S4, 3, 4⟩ 0 Aw2 Tryz.f334 .plain (mkA Aw0 d) = (Ab0 d.1 d.2.1).run fun r => some (A9a r) := fun d => by kernel_rfl
theorem A43 : Fn Tryz.prog 334 .plain Aw1 := Bu (Aq A6 Aw (show A5 Tryz.prog S4 from trivial)) Tryz.func334 (by kernel_rfl) (by kernel_rfl) (fun cx b hp hb => Ax (by kernel_rfl : Ar (Tryz.f334.body.getD .skip) = [Ai Tryz.f334 0]) ⟨Bcu cx hp, trivial⟩ b hb) (R := (YI)) (T := fun (d : Bw Aw0) => Ab0 d.1 d.2.1) Bkp
def Z9 : Au := As [(false, [.int .i64]), (false, [.sl 5 [.int .u8]]), (false, [.int .i64]), (false, [.int .i64])] (fun d => (Alb d.1 d.2.1 d.2.2.1 d.2.2.2.1).val) fun r => ([rv (false, [.sl 5 [.int .u8]]) r], [])
theorem Agx : Fn Tryz.prog 337 .plain Z9 := mkF [(313, .plain, Nr), (167, .plain, Ft), (83, .plain, B4), (295, .plain, S3), (294, .plain, Fu)] ⟨On, F0, Bl, Ms, Et, trivial⟩ Tryz.func337 (by kernel_rfl) (by kernel_rfl) (by kernel_rfl) 0 fun d => by kernel_rfl
def J2 : Au := As [(false, [.int .i64]), (true, B8)] (fun d => (Ab1 d.1 d.2.1).val) fun r => ([rv (false, [.sl 5 [.int .u8]]) r], [])
theorem Lg : Fn Tryz.prog 204 .plain J2 := mkF [(313, .plain, Nr), (88, .plain, Nq), (118, .plain, Je), (337, .plain, Z9), (294, .plain, Fu)] ⟨On, Om, Jz, Agx, Et, trivial⟩ Tryz.func204 (by kernel_rfl) (by kernel_rfl) (by kernel_rfl) 0 fun d => by kernel_rfl
def A0g : Au := As [(true, [.int .i64, .sl 3 [.int .i64]]), (false, [.int .i64])] (fun d => (Alc d.1 d.2.1).val) fun r => ([rv (false, [.bool]) r], [])
theorem Aux : Fn Tryz.prog 433 .plain A0g := mkF [(394, .plain, Aqr), (83, .plain, B4), (430, .plain, Ame)] ⟨Azq, Bl, Agt, trivial⟩ Tryz.func433 (by kernel_rfl) (by kernel_rfl) (by kernel_rfl) 0 fun d => by kernel_rfl
def Amn : List (Bool × List Sh) := [(true, [.int .i64, .sl 3 [.int .i64]]), (false, [.int .i64])]
def A0h (r : (Bi) × (Bool × Unit)) : List RV × List RV := ([rv (true, [.int .i64, .sl 3 [.int .i64]]) r.1, rv (false, [.bool]) r.2], [])
def Nx : Fns := [(426, .plain, Agu), (433, .plain, A0g)]
def A0i : Au := As Amn (fun d => (Q1 d.1 d.2.1).val) A0h
def Arj : Sk := ⟨[(1, .v false [(.int .i64, .nil)]), (2, .box 2 0), (4, .box 4 0), (6, .box 6 0), (7, .v false [(.int .i64, .nil)])], [(2, [(.int .i64, .nil), (.sl 3 [.int .i64], .ro)]), (4, [(.int .i64, .nil), (.sl 3 [.int .i64], (.own 6000000))]), (6, [(.int .i64, .nil), (.sl 3 [.int .i64], (.own 6000001))])], [6000000, 6000001]⟩
def Ark : List (Ex × Sk) := [((.exit 0), ⟨[(1, .v false [(.int .i64, .nil)]), (2, .box 2 0), (4, .box 4 0), (6, .box 6 0)], [(2, [(.int .i64, .nil), (.sl 3 [.int .i64], .ro)]), (4, [(.int .i64, .nil), (.sl 3 [.int .i64], (.own 6000000))]), (6, [(.int .i64, .nil), (.sl 3 [.int .i64], (.own 6000001))])], [6000000, 6000001]⟩)]
def Amo : Bp := fun i st => cond (Nat.beq i 5) (lam Arj 6000000 Ark Ho st) <| .fail
theorem A65 : ∀ d, bod ⟨A3 tys, A1 Nx, Av Nx, 3, 4⟩ 0 Tryz.f402.ntmps Amo (Ai Tryz.f402 0) Arj 6000000 Ark d = Ho d := fun d => by kernel_rfl
theorem A66 (cx : Cx) (hp : cx.pin.length ≤ 0) : Bh Tryz.prog cx Tryz.f402.ntmps Amo (Ai Tryz.f402 0) := Be (Aq A6 Aw (show A5 Tryz.prog Nx from ⟨Acn, Aux, trivial⟩)) hp (Ax (by kernel_rfl : Ar (Ai Tryz.f402 0) = []) trivial) (by kernel_rfl) A65
theorem Bfy : ∀ d, Bs ⟨A3 tys, A1 Nx, Av Nx, 3, 4⟩ 0 Amo Tryz.f402 .plain (mkA Amn d) = (Q1 d.1 d.2.1).run fun r => some (A0h r) := fun d => by kernel_rfl
theorem Bcv : Fn Tryz.prog 402 .plain A0i := Bu (Aq A6 Aw (show A5 Tryz.prog Nx from ⟨Acn, Aux, trivial⟩)) Tryz.func402 (by kernel_rfl) (by kernel_rfl) (fun cx b hp hb => Ax (by kernel_rfl : Ar (Tryz.f402.body.getD .skip) = [Ai Tryz.f402 0]) ⟨A66 cx hp, trivial⟩ b hb) (R := (Bi) × (Bool × Unit)) (T := fun (d : Bw Amn) => Q1 d.1 d.2.1) Bfy
def Auy : Au := As [(false, [.sl 5 [.int .u8]]), (false, [.sl 5 [.int .u8]])] (fun d => (Af8 d.1 d.2.1).val) fun r => ([rv (false, [.bool]) r], [])
theorem A9b : Fn Tryz.prog 375 .plain Auy := mkF [(334, .plain, Aw1)] ⟨A43, trivial⟩ Tryz.func375 (by kernel_rfl) (by kernel_rfl) (by kernel_rfl) 0 fun d => by kernel_rfl
def Auz : Au := As [(false, [.sl 5 [.int .u8]]), (false, [.sl 5 [.int .u8]]), (false, [.int .i64])] (fun d => (Aga d.1 d.2.1 d.2.2.1).val) fun r => ([rv (false, [.sl 5 [.int .u8]]) r], [])
theorem Arl : Fn Tryz.prog 457 .plain Auz := mkF [(83, .plain, B4), (294, .plain, Fu), (295, .plain, S3), (419, .plain, Acu)] ⟨Bl, Et, Ms, Ux, trivial⟩ Tryz.func457 (by kernel_rfl) (by kernel_rfl) (by kernel_rfl) 0 fun d => by kernel_rfl
def Amp : List (Bool × List Sh) := [(false, [.sl 5 [.int .u8]]), (false, [.sl 5 [.int .u8]]), (false, [.int .i64])]
def A0j (r : (YBs)) : List RV × List RV := ([rv (false, [.sl 5 [.int .u8]]) r], [])
def Ny : Fns := [(83, .plain, B4), (457, .plain, Auz), (168, .plain, Cw)]
def A0k : Au := As Amp (fun d => (Q2 d.1 d.2.1 d.2.2.1).val) A0j
def Arm : Sk := ⟨[(0, .v false [(.sl 5 [.int .u8], .ro)]), (1, .v false [(.sl 5 [.int .u8], .ro)]), (2, .v false [(.int .i64, .nil)]), (7, .v false [(.sl 5 [.int .u8], (.own 6000000))]), (8, .v false [(.int .i64, .nil)])], [], [6000000]⟩
def Arn : List (Ex × Sk) := [((.exit 0), ⟨[(2, .v false [(.int .i64, .nil)]), (7, .v false [(.sl 5 [.int .u8], (.own 6000000))])], [], [6000000]⟩)]
def Amq : Bp := fun i st => cond (Nat.beq i 5) (lam Arm 6000000 Arn Hp st) <| .fail
theorem A67 : ∀ d, bod ⟨A3 tys, A1 Ny, Av Ny, 3, 4⟩ 0 Tryz.f449.ntmps Amq (Ai Tryz.f449 0) Arm 6000000 Arn d = Hp d := fun d => by kernel_rfl
theorem A68 (cx : Cx) (hp : cx.pin.length ≤ 0) : Bh Tryz.prog cx Tryz.f449.ntmps Amq (Ai Tryz.f449 0) := Be (Aq A6 Aw (show A5 Tryz.prog Ny from ⟨Bl, Arl, Ca, trivial⟩)) hp (Ax (by kernel_rfl : Ar (Ai Tryz.f449 0) = []) trivial) (by kernel_rfl) A67
theorem Bfz : ∀ d, Bs ⟨A3 tys, A1 Ny, Av Ny, 3, 4⟩ 0 Amq Tryz.f449 .plain (mkA Amp d) = (Q2 d.1 d.2.1 d.2.2.1).run fun r => some (A0j r) := fun d => by kernel_rfl
theorem Au0 : Fn Tryz.prog 449 .plain A0k := Bu (Aq A6 Aw (show A5 Tryz.prog Ny from ⟨Bl, Arl, Ca, trivial⟩)) Tryz.func449 (by kernel_rfl) (by kernel_rfl) (fun cx b hp hb => Ax (by kernel_rfl : Ar (Tryz.f449.body.getD .skip) = [Ai Tryz.f449 0]) ⟨A68 cx hp, trivial⟩ b hb) (R := (YBs)) (T := fun (d : Bw Amp) => Q2 d.1 d.2.1 d.2.2.1) Bfz
def A2z : List (Bool × List Sh) := [(false, [.sl 5 [.int .u8]]), (false, [.sl 5 [.int .u8]]), (false, [.sl 5 [.int .u8]])]
def Bd3 (r : (YBs)) : List RV × List RV := ([rv (false, [.sl 5 [.int .u8]]) r], [])
def Aai : Fns := [(449, .plain, A0k)]
def A20 : Au := As A2z (fun d => (Ahu d.1 d.2.1 d.2.2.1).val) Bd3
def A44 : Sk := ⟨[(2, .v false [(.sl 5 [.int .u8], .ro)]), (7, .v false [(.sl 5 [.int .u8], (.own 6000000))]), (28, .v false [(.sl 5 [.int .u8], (.own 6000001))]), (29, .v false [(.int .i64, .nil)]), (30, .v false [(.int .i64, .nil)])], [], [6000000, 6000001]⟩
def A45 : List (Ex × Sk) := [((.exit 0), ⟨[(7, .v false [(.sl 5 [.int .u8], (.own 6000000))])], [], [6000000]⟩)]
def A21 : Bp := fun i st => cond (Nat.beq i 5) (lam A44 6000000 A45 Mg st) <| .fail
theorem Bf0 : ∀ d, bod ⟨A3 tys, A1 Aai, Av Aai, 3, 4⟩ 0 Tryz.f434.ntmps A21 (Ai Tryz.f434 0) A44 6000000 A45 d = Mg d := fun d => by kernel_rfl
theorem Bf1 (cx : Cx) (hp : cx.pin.length ≤ 0) : Bh Tryz.prog cx Tryz.f434.ntmps A21 (Ai Tryz.f434 0) := Be (Aq A6 Aw (show A5 Tryz.prog Aai from ⟨Au0, trivial⟩)) hp (Ax (by kernel_rfl : Ar (Ai Tryz.f434 0) = []) trivial) (by kernel_rfl) Bf0
theorem Bmm : ∀ d, Bs ⟨A3 tys, A1 Aai, Av Aai, 3, 4⟩ 0 A21 Tryz.f434 .plain (mkA A2z d) = (Ahu d.1 d.2.1 d.2.2.1).run fun r => some (Bd3 r) := fun d => by kernel_rfl
theorem A9c : Fn Tryz.prog 434 .plain A20 := Bu (Aq A6 Aw (show A5 Tryz.prog Aai from ⟨Au0, trivial⟩)) Tryz.func434 (by kernel_rfl) (by kernel_rfl) (fun cx b hp hb => Ax (by kernel_rfl : Ar (Tryz.f434.body.getD .skip) = [Ai Tryz.f434 0]) ⟨Bf1 cx hp, trivial⟩ b hb) (R := (YBs)) (T := fun (d : Bw A2z) => Ahu d.1 d.2.1 d.2.2.1) Bmm
def A0l : Au := As [(false, [.sl 5 [.int .u8]]), (false, [.int .i64]), (true, B8)] (fun d => (Alg d.1 d.2.1 d.2.2.1).val) fun r => ([rv (false, [.sl 5 [.int .u8]]) r.1, rv (false, [.bool]) r.2], [])
theorem Bcw : Fn Tryz.prog 403 .plain A0l := mkF [(204, .plain, J2), (372, .plain, As5), (375, .plain, Auy), (337, .plain, Z9), (434, .plain, A20)] ⟨Lg, Awy, A9b, Agx, A9c, trivial⟩ Tryz.func403 (by kernel_rfl) (by kernel_rfl) (by kernel_rfl) 0 fun d => by kernel_rfl
def A0m : Au := As [(true, h_6), (false, [.int .i64]), (true, B8)] (fun d => (Ali d.1 d.2.1 d.2.2.1).val) fun r => ([rv (true, h_6) r.1, rv (false, [.sl 5 [.int .u8]]) r.2.1, rv (false, [.int .i64]) r.2.2], [])
theorem Bcx : Fn Tryz.prog 336 .plain A0m := mkF [(389, .plain, Z7), (314, .plain, Acm), (204, .plain, J2), (402, .plain, A0i), (403, .plain, A0l)] ⟨Agv, Aed, Lg, Bcv, Bcw, trivial⟩ Tryz.func336 (by kernel_rfl) (by kernel_rfl) (by kernel_rfl) 0 fun d => by kernel_rfl
def Aro : Au := As [(true, D4), (false, [.int .i64]), (true, B8)] (fun d => (Ab2 d.1 d.2.1 d.2.2.1).val) fun r => ([rv (true, D4) r.1, rv (false, [.sl 5 [.int .u8]]) r.2.1, rv (false, [.int .i64]) r.2.2], [])
theorem A69 : Fn Tryz.prog 201 .plain Aro := mkF [(309, .plain, Re), (179, .plain, Ns), (83, .plain, B4), (88, .plain, Nq), (118, .plain, Je), (334, .plain, Aw1), (335, .plain, Ari), (336, .plain, A0m)] ⟨Vm, Oo, Bl, Om, Jz, A43, A0c, Bcx, trivial⟩ Tryz.func201 (by kernel_rfl) (by kernel_rfl) (by kernel_rfl) 0 fun d => by kernel_rfl
def A0n : Au := As [(true, D4), (false, [.int .i64])] (fun d => (Alj d.1 d.2.1).val) fun r => ([rv (false, [.sl 5 [.int .u8]]) r.1, rv (false, [.bool]) r.2], [])
theorem Bcy : Fn Tryz.prog 202 .plain A0n := mkF [(179, .plain, Ns), (168, .plain, Cw)] ⟨Oo, Ca, trivial⟩ Tryz.func202 (by kernel_rfl) (by kernel_rfl) (by kernel_rfl) 0 fun d => by kernel_rfl
def A9d : Au := As [(false, [.sl 5 [.int .u8]]), (false, [.sl 5 [.int .u8]]), (false, [.sl 5 [.int .u8]])] (fun d => (Av4 d.1 d.2.1 d.2.2.1).val) fun r => ([rv (true, h_9) r], [])
theorem Bic : Fn Tryz.prog 203 .plain A9d := mkF [(168, .plain, Cw)] ⟨Ca, trivial⟩ Tryz.func203 (by kernel_rfl) (by kernel_rfl) (by kernel_rfl) 0 fun d => by kernel_rfl
def A9e : Au := As [(false, [.sl 5 [.int .u8]]), (false, [.int .i64]), (false, [.sl 5 [.int .u8]]), (false, [.int .i64]), (false, [.int .i64]), (false, [.int .i64]), (false, [.sl 5 [.int .u8]])] (fun d => (Av6 d.1 d.2.1 d.2.2.1 d.2.2.2.1 d.2.2.2.2.1 d.2.2.2.2.2.1 d.2.2.2.2.2.2.1).val) fun r => ([rv (true, B8) r.1, rv (false, [.bool]) r.2], [])
theorem Bid : Fn Tryz.prog 405 .plain A9e := mkF [(168, .plain, Cw), (313, .plain, Nr), (88, .plain, Nq), (118, .plain, Je), (337, .plain, Z9), (434, .plain, A20), (204, .plain, J2), (372, .plain, As5)] ⟨Ca, On, Om, Jz, Agx, A9c, Lg, Awy, trivial⟩ Tryz.func405 (by kernel_rfl) (by kernel_rfl) (by kernel_rfl) 0 fun d => by kernel_rfl
def A0o : Au := As [(true, h_6), (false, [.int .i64]), (false, [.sl 5 [.int .u8]]), (false, [.int .i64]), (false, [.sl 5 [.int .u8]])] (fun d => (Alk d.1 d.2.1 d.2.2.1 d.2.2.2.1 d.2.2.2.2.1).val) fun r => ([rv (true, h_6) r.1, rv (true, B8) r.2.1, rv (false, [.int .i64]) r.2.2], [])
theorem Bcz : Fn Tryz.prog 341 .plain A0o := mkF [(389, .plain, Z7), (314, .plain, Acm), (405, .plain, A9e)] ⟨Agv, Aed, Bid, trivial⟩ Tryz.func341 (by kernel_rfl) (by kernel_rfl) (by kernel_rfl) 0 fun d => by kernel_rfl
def Arp : Au := As [(true, D4), (false, [.int .i64]), (false, [.sl 5 [.int .u8]])] (fun d => (Ab4 d.1 d.2.1 d.2.2.1).val) fun r => ([rv (true, D4) r.1, rv (true, B8) r.2.1, rv (false, [.int .i64]) r.2.2], [])
theorem A7a : Fn Tryz.prog 208 .plain Arp := mkF [(309, .plain, Re), (179, .plain, Ns), (341, .plain, A0o)] ⟨Vm, Oo, Bcz, trivial⟩ Tryz.func208 (by kernel_rfl) (by kernel_rfl) (by kernel_rfl) 0 fun d => by kernel_rfl
def A0p : Au := As [(true, D4), (true, B8)] (fun d => (Alm d.1 d.2.1).val) fun r => ([rv (true, h_9) r], [])
theorem Bc0 : Fn Tryz.prog 209 .plain A0p := mkF [(204, .plain, J2), (261, .plain, Awz)] ⟨Lg, A42, trivial⟩ Tryz.func209 (by kernel_rfl) (by kernel_rfl) (by kernel_rfl) 0 fun d => by kernel_rfl
def Aip : Au := As [(true, Fk), (false, [.int .i64]), (true, B8)] (fun d => (Sj d.1 d.2.1 d.2.2.1).val) fun r => ([rv (true, Fk) r.1, rv (false, [.sl 44 B8]) r.2.1, rv (false, [.sl 93 h_9]) r.2.2], [])
theorem A0q : Fn Tryz.prog 191 .plain Aip := mkF [(166, .plain, Nt), (201, .plain, Aro), (202, .plain, A0n), (204, .plain, J2), (203, .plain, A9d), (168, .plain, Cw), (208, .plain, Arp), (209, .plain, A0p)] ⟨Rf, A69, Bcy, Lg, Bic, Ca, A7a, Bc0, trivial⟩ Tryz.func191 (by kernel_rfl) (by kernel_rfl) (by kernel_rfl) 0 fun d => by kernel_rfl
def Aiq : Au := As [(true, Fk), (false, [.int .i64]), (true, B8)] (fun d => (Sl d.1 d.2.1 d.2.2.1).val) fun r => ([rv (true, Fk) r.1, rv (false, [.sl 44 B8]) r.2.1, rv (false, [.sl 93 h_9]) r.2.2], [])
theorem A0r : Fn Tryz.prog 43 .plain Aiq := mkF [(38, .plain, Aqu), (83, .plain, B4), (118, .plain, Je), (166, .plain, Nt), (119, .plain, Lf), (190, .plain, Aio), (88, .plain, Nq), (191, .plain, Aip)] ⟨A6n, Bl, Jz, Rf, Np, A0d, Om, A0q, trivial⟩ Tryz.func43 (by kernel_rfl) (by kernel_rfl) (by kernel_rfl) 0 fun d => by kernel_rfl
def Agy : List (Bool × List Sh) := [(false, [.sl 5 [.int .u8]]), (false, [.sl 5 [.int .u8]])]
def Au1 (r : (Bool × Unit)) : List RV × List RV := ([rv (false, [.bool]) r], [])
def Ll : Fns := []
def Lm : Au := As Agy (fun d => (Of d.1 d.2.1).val) Au1
def Aof : Sk := ⟨[(0, .v false [(.sl 5 [.int .u8], .ro)]), (1, .v false [(.sl 5 [.int .u8], .ro)]), (5, .v false [(.int .i64, .nil)])], [], []⟩
def Aog : List (Ex × Sk) := [(.ret, ⟨[(4, .v false [(.bool, .nil)])], [], []⟩), ((.exit 0), ⟨[], [], []⟩)]
def Agz : Bp := fun i st => cond (Nat.beq i 4) (lam Aof 5000000 Aog H6 st) <| .fail
theorem A22 : ∀ d, bod ⟨A3 tys, A1 Ll, Av Ll, 3, 4⟩ 0 Tryz.f26.ntmps Agz (Ai Tryz.f26 0) Aof 5000000 Aog d = H6 d := fun d => by kernel_rfl
theorem A23 (cx : Cx) (hp : cx.pin.length ≤ 0) : Bh Tryz.prog cx Tryz.f26.ntmps Agz (Ai Tryz.f26 0) := Be (Aq A6 Aw (show A5 Tryz.prog Ll from trivial)) hp (Ax (by kernel_rfl : Ar (Ai Tryz.f26 0) = []) trivial) (by kernel_rfl) A22
theorem Bc1 : ∀ d, Bs ⟨A3 tys, A1 Ll, Av Ll, 3, 4⟩ 0 Agz Tryz.f26 .plain (mkA Agy d) = (Of d.1 d.2.1).run fun r => some (Au1 r) := fun d => by kernel_rfl
theorem Mt : Fn Tryz.prog 26 .plain Lm := Bu (Aq A6 Aw (show A5 Tryz.prog Ll from trivial)) Tryz.func26 (by kernel_rfl) (by kernel_rfl) (fun cx b hp hb => Ax (by kernel_rfl : Ar (Tryz.f26.body.getD .skip) = [Ai Tryz.f26 0]) ⟨A23 cx hp, trivial⟩ b hb) (R := (Bool × Unit)) (T := fun (d : Bw Agy) => Of d.1 d.2.1) Bc1
def Amr : Au := As [(true, [.int .i64, .int .i64]), (true, [.int .i64, .int .i64])] (fun d => (Aln d.1 d.2.1).val) fun r => ([rv (false, [.bool]) r], [])
theorem Au2 : Fn Tryz.prog 233 .plain Amr := mkF [] trivial Tryz.func233 (by kernel_rfl) (by kernel_rfl) (by kernel_rfl) 0 fun d => by kernel_rfl
def T5 : Au := As [(true, B8), (true, B8)] (fun d => (Agc d.1 d.2.1).val) fun r => ([rv (false, [.bool]) r], [])
theorem Rj : Fn Tryz.prog 65 .plain T5 := mkF [(26, .plain, Lm)] ⟨Mt, trivial⟩ Tryz.func65 (by kernel_rfl) (by kernel_rfl) (by kernel_rfl) 0 fun d => by kernel_rfl
def Ams : List (Bool × List Sh) := [(false, [.sl 3 [.int .i64]]), (false, [.sl 3 [.int .i64]])]
def A0s (r : (Bool × Unit)) : List RV × List RV := ([rv (false, [.bool]) r], [])
def Nz : Fns := []
def A0t : Au := As Ams (fun d => (Q5 d.1 d.2.1).val) A0s
def Arq : Sk := ⟨[(0, .v false [(.sl 3 [.int .i64], .ro)]), (1, .v false [(.sl 3 [.int .i64], .ro)]), (5, .v false [(.int .i64, .nil)])], [], []⟩
def Arr : List (Ex × Sk) := [(.ret, ⟨[(4, .v false [(.bool, .nil)])], [], []⟩), ((.exit 0), ⟨[], [], []⟩)]
def Amt : Bp := fun i st => cond (Nat.beq i 4) (lam Arq 5000000 Arr Js st) <| .fail
theorem A7b : ∀ d, bod ⟨A3 tys, A1 Nz, Av Nz, 3, 4⟩ 0 Tryz.f438.ntmps Amt (Ai Tryz.f438 0) Arq 5000000 Arr d = Js d := fun d => by kernel_rfl
theorem A7c (cx : Cx) (hp : cx.pin.length ≤ 0) : Bh Tryz.prog cx Tryz.f438.ntmps Amt (Ai Tryz.f438 0) := Be (Aq A6 Aw (show A5 Tryz.prog Nz from trivial)) hp (Ax (by kernel_rfl : Ar (Ai Tryz.f438 0) = []) trivial) (by kernel_rfl) A7b
theorem Bf2 : ∀ d, Bs ⟨A3 tys, A1 Nz, Av Nz, 3, 4⟩ 0 Amt Tryz.f438 .plain (mkA Ams d) = (Q5 d.1 d.2.1).run fun r => some (A0s r) := fun d => by kernel_rfl
theorem Bc2 : Fn Tryz.prog 438 .plain A0t := Bu (Aq A6 Aw (show A5 Tryz.prog Nz from trivial)) Tryz.func438 (by kernel_rfl) (by kernel_rfl) (fun cx b hp hb => Ax (by kernel_rfl : Ar (Tryz.f438.body.getD .skip) = [Ai Tryz.f438 0]) ⟨A7c cx hp, trivial⟩ b hb) (R := (Bool × Unit)) (T := fun (d : Bw Ams) => Q5 d.1 d.2.1) Bf2
def A46 : Au := As [(true, [.int .i64, .sl 3 [.int .i64]]), (true, [.int .i64, .sl 3 [.int .i64]])] (fun d => (Apf d.1 d.2.1).val) fun r => ([rv (false, [.bool]) r], [])
theorem Bf3 : Fn Tryz.prog 411 .plain A46 := mkF [(438, .plain, A0t)] ⟨Bc2, trivial⟩ Tryz.func411 (by kernel_rfl) (by kernel_rfl) (by kernel_rfl) 0 fun d => by kernel_rfl
def A9f : Au := As [(true, h_6), (true, h_6)] (fun d => (Av7 d.1 d.2.1).val) fun r => ([rv (false, [.bool]) r], [])
theorem Bie : Fn Tryz.prog 356 .plain A9f := mkF [(26, .plain, Lm), (411, .plain, A46)] ⟨Mt, Bf3, trivial⟩ Tryz.func356 (by kernel_rfl) (by kernel_rfl) (by kernel_rfl) 0 fun d => by kernel_rfl
def A0u : Au := As [(true, D4), (true, D4)] (fun d => (Alq d.1 d.2.1).val) fun r => ([rv (false, [.bool]) r], [])
theorem Bc3 : Fn Tryz.prog 234 .plain A0u := mkF [(26, .plain, Lm), (356, .plain, A9f)] ⟨Mt, Bie, trivial⟩ Tryz.func234 (by kernel_rfl) (by kernel_rfl) (by kernel_rfl) 0 fun d => by kernel_rfl
def Au3 : Au := As [(true, h_1), (true, h_1)] (fun d => (Agd d.1 d.2.1).val) fun r => ([rv (false, [.bool]) r], [])
theorem A9g : Fn Tryz.prog 235 .plain Au3 := mkF [] trivial Tryz.func235 (by kernel_rfl) (by kernel_rfl) (by kernel_rfl) 0 fun d => by kernel_rfl
def Ars : Au := As [(true, Fk), (true, Fk)] (fun d => (Ab5 d.1 d.2.1).val) fun r => ([rv (false, [.bool]) r], [])
theorem A7d : Fn Tryz.prog 63 .plain Ars := mkF [(26, .plain, Lm), (233, .plain, Amr), (65, .plain, T5), (234, .plain, A0u), (235, .plain, Au3)] ⟨Mt, Au2, Rj, Bc3, A9g, trivial⟩ Tryz.func63 (by kernel_rfl) (by kernel_rfl) (by kernel_rfl) 0 fun d => by kernel_rfl
def Acv : List (Bool × List Sh) := [(false, [.sl 44 B8]), (false, [.sl 44 B8])]
def Art (r : (Bool × Unit)) : List RV × List RV := ([rv (false, [.bool]) r], [])
def J3 : Fns := [(65, .plain, T5)]
def Aru : Au := As Acv (fun d => (Mi d.1 d.2.1).val) Art
def Air : Sk := ⟨[(0, .v false [(.sl 44 B8, .ro)]), (1, .v false [(.sl 44 B8, .ro)]), (5, .v false [(.int .i64, .nil)])], [], []⟩
def Ais : List (Ex × Sk) := [(.ret, ⟨[(4, .v false [(.bool, .nil)])], [], []⟩), ((.exit 0), ⟨[], [], []⟩)]
def Acw : Bp := fun i st => cond (Nat.beq i 4) (lam Air 5000000 Ais G6 st) <| .fail
theorem A0v : ∀ d, bod ⟨A3 tys, A1 J3, Av J3, 3, 4⟩ 0 Tryz.f64.ntmps Acw (Ai Tryz.f64 0) Air 5000000 Ais d = G6 d := fun d => by kernel_rfl
theorem A0w (cx : Cx) (hp : cx.pin.length ≤ 0) : Bh Tryz.prog cx Tryz.f64.ntmps Acw (Ai Tryz.f64 0) := Be (Aq A6 Aw (show A5 Tryz.prog J3 from ⟨Rj, trivial⟩)) hp (Ax (by kernel_rfl : Ar (Ai Tryz.f64 0) = []) trivial) (by kernel_rfl) A0v
theorem A9h : ∀ d, Bs ⟨A3 tys, A1 J3, Av J3, 3, 4⟩ 0 Acw Tryz.f64 .plain (mkA Acv d) = (Mi d.1 d.2.1).run fun r => some (Art r) := fun d => by kernel_rfl
theorem A7e : Fn Tryz.prog 64 .plain Aru := Bu (Aq A6 Aw (show A5 Tryz.prog J3 from ⟨Rj, trivial⟩)) Tryz.func64 (by kernel_rfl) (by kernel_rfl) (fun cx b hp hb => Ax (by kernel_rfl : Ar (Tryz.f64.body.getD .skip) = [Ai Tryz.f64 0]) ⟨A0w cx hp, trivial⟩ b hb) (R := (Bool × Unit)) (T := fun (d : Bw Acv) => Mi d.1 d.2.1) A9h
def A0x : Au := As [(true, h_9), (true, h_9)] (fun d => (Als d.1 d.2.1).val) fun r => ([rv (false, [.bool]) r], [])
theorem Au4 : Fn Tryz.prog 150 .plain A0x := mkF [(26, .plain, Lm), (233, .plain, Amr)] ⟨Mt, Au2, trivial⟩ Tryz.func150 (by kernel_rfl) (by kernel_rfl) (by kernel_rfl) 0 fun d => by kernel_rfl
def Ag0 : List (Bool × List Sh) := [(false, [.sl 93 h_9]), (false, [.sl 93 h_9])]
def Au5 (r : (Bool × Unit)) : List RV × List RV := ([rv (false, [.bool]) r], [])
def Ln : Fns := [(150, .plain, A0x)]
def Au6 : Au := As Ag0 (fun d => (Oh d.1 d.2.1).val) Au5
def Aoh : Sk := ⟨[(0, .v false [(.sl 93 h_9, .ro)]), (1, .v false [(.sl 93 h_9, .ro)]), (5, .v false [(.int .i64, .nil)])], [], []⟩
def Aoi : List (Ex × Sk) := [(.ret, ⟨[(4, .v false [(.bool, .nil)])], [], []⟩), ((.exit 0), ⟨[], [], []⟩)]
def Ag1 : Bp := fun i st => cond (Nat.beq i 4) (lam Aoh 5000000 Aoi H7 st) <| .fail
theorem A24 : ∀ d, bod ⟨A3 tys, A1 Ln, Av Ln, 3, 4⟩ 0 Tryz.f25.ntmps Ag1 (Ai Tryz.f25 0) Aoh 5000000 Aoi d = H7 d := fun d => by kernel_rfl
theorem A25 (cx : Cx) (hp : cx.pin.length ≤ 0) : Bh Tryz.prog cx Tryz.f25.ntmps Ag1 (Ai Tryz.f25 0) := Be (Aq A6 Aw (show A5 Tryz.prog Ln from ⟨Au4, trivial⟩)) hp (Ax (by kernel_rfl : Ar (Ai Tryz.f25 0) = []) trivial) (by kernel_rfl) A24
theorem Bc4 : ∀ d, Bs ⟨A3 tys, A1 Ln, Av Ln, 3, 4⟩ 0 Ag1 Tryz.f25 .plain (mkA Ag0 d) = (Oh d.1 d.2.1).run fun r => some (Au5 r) := fun d => by kernel_rfl
theorem A9i : Fn Tryz.prog 25 .plain Au6 := Bu (Aq A6 Aw (show A5 Tryz.prog Ln from ⟨Au4, trivial⟩)) Tryz.func25 (by kernel_rfl) (by kernel_rfl) (fun cx b hp hb => Ax (by kernel_rfl : Ar (Tryz.f25.body.getD .skip) = [Ai Tryz.f25 0]) ⟨A25 cx hp, trivial⟩ b hb) (R := (Bool × Unit)) (T := fun (d : Bw Ag0) => Oh d.1 d.2.1) Bc4
def Vs : List (Bool × List Sh) := [(false, [.sl 5 [.int .u8]]), (false, [.int .i64])]
def Aoj (r : (YI) × (YBs)) : List RV × List RV := ([rv (false, [.int .i64]) r.1], [rv (false, [.sl 5 [.int .u8]]) r.2])
def Ib : Fns := []
def Gd : Au := As Vs (fun d => (Lb d.1 d.2.1).val) Aoj
def Aej : Sk := ⟨[(0, .v false [(.sl 5 [.int .u8], (.own 3000000))]), (1, .v false [(.int .i64, .nil)]), (5, .v false [(.int .i64, .nil)])], [], [3000000]⟩
def Aek : List (Ex × Sk) := [((.exit 0), ⟨[(0, .v false [(.sl 5 [.int .u8], (.own 3000000))]), (1, .v false [(.int .i64, .nil)])], [], [3000000]⟩)]
def Vt : Bp := fun i st => cond (Nat.beq i 2) (lam Aej 3000000 Aek F6 st) <| .fail
theorem Aw3 : ∀ d, bod ⟨A3 tys, A1 Ib, Av Ib, 3, 4⟩ 1 Tryz.f28.ntmps Vt (Ai Tryz.f28 0) Aej 3000000 Aek d = F6 d := fun d => by kernel_rfl
theorem Aw4 (cx : Cx) (hp : cx.pin.length ≤ 1) : Bh Tryz.prog cx Tryz.f28.ntmps Vt (Ai Tryz.f28 0) := Be (Aq A6 Aw (show A5 Tryz.prog Ib from trivial)) hp (Ax (by kernel_rfl : Ar (Ai Tryz.f28 0) = []) trivial) (by kernel_rfl) Aw3
theorem A7f : ∀ d, Bs ⟨A3 tys, A1 Ib, Av Ib, 3, 4⟩ 1 Vt Tryz.f28 (.lend [1]) (mkA Vs d) = (Lb d.1 d.2.1).run fun r => some (Aoj r) := fun d => by kernel_rfl
theorem Ej : Fn Tryz.prog 28 (.lend [1]) Gd := Bu (Aq A6 Aw (show A5 Tryz.prog Ib from trivial)) Tryz.func28 (by kernel_rfl) (by kernel_rfl) (fun cx b hp hb => Ax (by kernel_rfl : Ar (Tryz.f28.body.getD .skip) = [Ai Tryz.f28 0]) ⟨Aw4 cx hp, trivial⟩ b hb) (R := (YI) × (YBs)) (T := fun (d : Bw Vs) => Lb d.1 d.2.1) A7f
def Vu : Au := As [(true, B8), (false, [.int .i64])] (fun d => (Ve d.1 d.2.1).val) fun r => ([rv (false, [.int .i64]) r.1], [rv (true, B8) r.2])
theorem Ait : Fn Tryz.prog 67 (.lend [1]) Vu := mkF [(28, (.lend [1]), Gd)] ⟨Ej, trivial⟩ Tryz.func67 (by kernel_rfl) (by kernel_rfl) (by kernel_rfl) 1 fun d => by kernel_rfl
def Acx : List (Bool × List Sh) := [(false, [.sl 3 [.int .i64]]), (false, [.int .i64])]
def Arv (r : (YI) × ((List YI) × Unit)) : List RV × List RV := ([rv (false, [.int .i64]) r.1], [rv (false, [.sl 3 [.int .i64]]) r.2])
def J4 : Fns := []
def Arw : Au := As Acx (fun d => (Mk d.1 d.2.1).val) Arv
def Aiu : Sk := ⟨[(0, .v false [(.sl 3 [.int .i64], (.own 3000000))]), (1, .v false [(.int .i64, .nil)]), (5, .v false [(.int .i64, .nil)])], [], [3000000]⟩
def Aiv : List (Ex × Sk) := [((.exit 0), ⟨[(0, .v false [(.sl 3 [.int .i64], (.own 3000000))]), (1, .v false [(.int .i64, .nil)])], [], [3000000]⟩)]
def Acy : Bp := fun i st => cond (Nat.beq i 2) (lam Aiu 3000000 Aiv G7 st) <| .fail
theorem A0y : ∀ d, bod ⟨A3 tys, A1 J4, Av J4, 3, 4⟩ 1 Tryz.f384.ntmps Acy (Ai Tryz.f384 0) Aiu 3000000 Aiv d = G7 d := fun d => by kernel_rfl
theorem A0z (cx : Cx) (hp : cx.pin.length ≤ 1) : Bh Tryz.prog cx Tryz.f384.ntmps Acy (Ai Tryz.f384 0) := Be (Aq A6 Aw (show A5 Tryz.prog J4 from trivial)) hp (Ax (by kernel_rfl : Ar (Ai Tryz.f384 0) = []) trivial) (by kernel_rfl) A0y
theorem A9j : ∀ d, Bs ⟨A3 tys, A1 J4, Av J4, 3, 4⟩ 1 Acy Tryz.f384 (.lend [1]) (mkA Acx d) = (Mk d.1 d.2.1).run fun r => some (Arv r) := fun d => by kernel_rfl
theorem A7g : Fn Tryz.prog 384 (.lend [1]) Arw := Bu (Aq A6 Aw (show A5 Tryz.prog J4 from trivial)) Tryz.func384 (by kernel_rfl) (by kernel_rfl) (fun cx b hp hb => Ax (by kernel_rfl : Ar (Tryz.f384.body.getD .skip) = [Ai Tryz.f384 0]) ⟨A0z cx hp, trivial⟩ b hb) (R := (YI) × ((List YI) × Unit)) (T := fun (d : Bw Acx) => Mk d.1 d.2.1) A9j
def Au7 : Au := As [(true, [.int .i64, .sl 3 [.int .i64]]), (false, [.int .i64])] (fun d => (Age d.1 d.2.1).val) fun r => ([rv (false, [.int .i64]) r.1], [rv (true, [.int .i64, .sl 3 [.int .i64]]) r.2])
theorem A9k : Fn Tryz.prog 412 (.lend [1]) Au7 := mkF [(384, (.lend [1]), Arw)] ⟨A7g, trivial⟩ Tryz.func412 (by kernel_rfl) (by kernel_rfl) (by kernel_rfl) 1 fun d => by kernel_rfl
def A00 : Au := As [(true, h_6), (false, [.int .i64])] (fun d => (Alu d.1 d.2.1).val) fun r => ([rv (false, [.int .i64]) r.1], [rv (true, h_6) r.2])
theorem Bc5 : Fn Tryz.prog 357 (.lend [1]) A00 := mkF [(28, (.lend [1]), Gd), (412, (.lend [1]), Au7)] ⟨Ej, A9k, trivial⟩ Tryz.func357 (by kernel_rfl) (by kernel_rfl) (by kernel_rfl) 1 fun d => by kernel_rfl
def Arx : Au := As [(true, D4), (false, [.int .i64])] (fun d => (Ab7 d.1 d.2.1).val) fun r => ([rv (false, [.int .i64]) r.1], [rv (true, D4) r.2])
theorem A7h : Fn Tryz.prog 236 (.lend [1]) Arx := mkF [(28, (.lend [1]), Gd), (357, (.lend [1]), A00)] ⟨Ej, Bc5, trivial⟩ Tryz.func236 (by kernel_rfl) (by kernel_rfl) (by kernel_rfl) 1 fun d => by kernel_rfl
def Aiw : Au := As [(true, Fk), (false, [.int .i64])] (fun d => (Sm d.1 d.2.1).val) fun r => ([rv (false, [.int .i64]) r.1], [rv (true, Fk) r.2])
theorem A01 : Fn Tryz.prog 66 (.lend [1]) Aiw := mkF [(28, (.lend [1]), Gd), (67, (.lend [1]), Vu), (236, (.lend [1]), Arx)] ⟨Ej, Ait, A7h, trivial⟩ Tryz.func66 (by kernel_rfl) (by kernel_rfl) (by kernel_rfl) 1 fun d => by kernel_rfl
def S5 : List (Bool × List Sh) := [(false, [.sl 44 B8]), (false, [.int .i64])]
def Aix (r : (YI) × ((List Aa) × Unit)) : List RV × List RV := ([rv (false, [.int .i64]) r.1], [rv (false, [.sl 44 B8]) r.2])
def Ha : Fns := [(28, (.lend [1]), Gd)]
def Aiy : Au := As S5 (fun d => (Ju d.1 d.2.1).val) Aix
def Acz : Sk := ⟨[(0, .v false [(.sl 44 B8, (.own 3000000))]), (1, .v false [(.int .i64, .nil)]), (5, .v false [(.int .i64, .nil)])], [], [3000000]⟩
def Ac0 : List (Ex × Sk) := [((.exit 0), ⟨[(0, .v false [(.sl 44 B8, (.own 3000000))]), (1, .v false [(.int .i64, .nil)])], [], [3000000]⟩)]
def S6 : Bp := fun i st => cond (Nat.beq i 2) (lam Acz 3000000 Ac0 Fi st) <| .fail
theorem Atu : ∀ d, bod ⟨A3 tys, A1 Ha, Av Ha, 3, 4⟩ 1 Tryz.f68.ntmps S6 (Ai Tryz.f68 0) Acz 3000000 Ac0 d = Fi d := fun d => by kernel_rfl
theorem Atv (cx : Cx) (hp : cx.pin.length ≤ 1) : Bh Tryz.prog cx Tryz.f68.ntmps S6 (Ai Tryz.f68 0) := Be (Aq A6 Aw (show A5 Tryz.prog Ha from ⟨Ej, trivial⟩)) hp (Ax (by kernel_rfl : Ar (Ai Tryz.f68 0) = []) trivial) (by kernel_rfl) Atu
theorem A26 : ∀ d, Bs ⟨A3 tys, A1 Ha, Av Ha, 3, 4⟩ 1 S6 Tryz.f68 (.lend [1]) (mkA S5 d) = (Ju d.1 d.2.1).run fun r => some (Aix r) := fun d => by kernel_rfl
theorem A02 : Fn Tryz.prog 68 (.lend [1]) Aiy := Bu (Aq A6 Aw (show A5 Tryz.prog Ha from ⟨Ej, trivial⟩)) Tryz.func68 (by kernel_rfl) (by kernel_rfl) (fun cx b hp hb => Ax (by kernel_rfl : Ar (Tryz.f68.body.getD .skip) = [Ai Tryz.f68 0]) ⟨Atv cx hp, trivial⟩ b hb) (R := (YI) × ((List Aa) × Unit)) (T := fun (d : Bw S5) => Ju d.1 d.2.1) A26
def Vv : List (Bool × List Sh) := [(false, [.sl 93 h_9]), (false, [.int .i64])]
def Aok (r : (YI) × ((List Af) × Unit)) : List RV × List RV := ([rv (false, [.int .i64]) r.1], [rv (false, [.sl 93 h_9]) r.2])
def Ic : Fns := [(28, (.lend [1]), Gd)]
def Aol : Au := As Vv (fun d => (Lc d.1 d.2.1).val) Aok
def Ael : Sk := ⟨[(0, .v false [(.sl 93 h_9, (.own 3000000))]), (1, .v false [(.int .i64, .nil)]), (5, .v false [(.int .i64, .nil)])], [], [3000000]⟩
def Aem : List (Ex × Sk) := [((.exit 0), ⟨[(0, .v false [(.sl 93 h_9, (.own 3000000))]), (1, .v false [(.int .i64, .nil)])], [], [3000000]⟩)]
def Vw : Bp := fun i st => cond (Nat.beq i 2) (lam Ael 3000000 Aem F7 st) <| .fail
theorem Aw5 : ∀ d, bod ⟨A3 tys, A1 Ic, Av Ic, 3, 4⟩ 1 Tryz.f30.ntmps Vw (Ai Tryz.f30 0) Ael 3000000 Aem d = F7 d := fun d => by kernel_rfl
theorem Aw6 (cx : Cx) (hp : cx.pin.length ≤ 1) : Bh Tryz.prog cx Tryz.f30.ntmps Vw (Ai Tryz.f30 0) := Be (Aq A6 Aw (show A5 Tryz.prog Ic from ⟨Ej, trivial⟩)) hp (Ax (by kernel_rfl : Ar (Ai Tryz.f30 0) = []) trivial) (by kernel_rfl) Aw5
theorem A7i : ∀ d, Bs ⟨A3 tys, A1 Ic, Av Ic, 3, 4⟩ 1 Vw Tryz.f30 (.lend [1]) (mkA Vv d) = (Lc d.1 d.2.1).run fun r => some (Aok r) := fun d => by kernel_rfl
theorem A27 : Fn Tryz.prog 30 (.lend [1]) Aol := Bu (Aq A6 Aw (show A5 Tryz.prog Ic from ⟨Ej, trivial⟩)) Tryz.func30 (by kernel_rfl) (by kernel_rfl) (fun cx b hp hb => Ax (by kernel_rfl : Ar (Tryz.f30.body.getD .skip) = [Ai Tryz.f30 0]) ⟨Aw6 cx hp, trivial⟩ b hb) (R := (YI) × ((List Af) × Unit)) (T := fun (d : Bw Vv) => Lc d.1 d.2.1) A7i
def Vx : List (Bool × List Sh) := [(false, [.sl 5 [.int .u8]]), (false, [.int .i64])]
def Aom (r : (YI)) : List RV × List RV := ([rv (false, [.int .i64]) r], [])
def Id : Fns := []
def Ge : Au := As Vx (fun d => (Ld d.1 d.2.1).val) Aom
def Aen : Sk := ⟨[(0, .v false [(.sl 5 [.int .u8], .ro)]), (1, .v false [(.int .i64, .nil)]), (5, .v false [(.int .i64, .nil)])], [], []⟩
def Aeo : List (Ex × Sk) := [(.ret, ⟨[(4, .v false [(.int .i64, .nil)])], [], []⟩), ((.exit 0), ⟨[(1, .v false [(.int .i64, .nil)])], [], []⟩)]
def Vy : Bp := fun i st => cond (Nat.beq i 2) (lam Aen 3000000 Aeo F8 st) <| .fail
theorem Aw7 : ∀ d, bod ⟨A3 tys, A1 Id, Av Id, 3, 4⟩ 0 Tryz.f161.ntmps Vy (Ai Tryz.f161 0) Aen 3000000 Aeo d = F8 d := fun d => by kernel_rfl
theorem Aw8 (cx : Cx) (hp : cx.pin.length ≤ 0) : Bh Tryz.prog cx Tryz.f161.ntmps Vy (Ai Tryz.f161 0) := Be (Aq A6 Aw (show A5 Tryz.prog Id from trivial)) hp (Ax (by kernel_rfl : Ar (Ai Tryz.f161 0) = []) trivial) (by kernel_rfl) Aw7
theorem A7j : ∀ d, Bs ⟨A3 tys, A1 Id, Av Id, 3, 4⟩ 0 Vy Tryz.f161 .plain (mkA Vx d) = (Ld d.1 d.2.1).run fun r => some (Aom r) := fun d => by kernel_rfl
theorem Ek : Fn Tryz.prog 161 .plain Ge := Bu (Aq A6 Aw (show A5 Tryz.prog Id from trivial)) Tryz.func161 (by kernel_rfl) (by kernel_rfl) (fun cx b hp hb => Ax (by kernel_rfl : Ar (Tryz.f161.body.getD .skip) = [Ai Tryz.f161 0]) ⟨Aw8 cx hp, trivial⟩ b hb) (R := (YI)) (T := fun (d : Bw Vx) => Ld d.1 d.2.1) A7j
def Aon : Au := As [(true, B8), (false, [.int .i64])] (fun d => (Vg d.1 d.2.1).val) fun r => ([rv (false, [.int .i64]) r], [])
theorem A28 : Fn Tryz.prog 237 .plain Aon := mkF [(161, .plain, Ge)] ⟨Ek, trivial⟩ Tryz.func237 (by kernel_rfl) (by kernel_rfl) (by kernel_rfl) 0 fun d => by kernel_rfl
def Ac1 : List (Bool × List Sh) := [(false, [.sl 3 [.int .i64]]), (false, [.int .i64])]
def Ary (r : (YI)) : List RV × List RV := ([rv (false, [.int .i64]) r], [])
def J5 : Fns := []
def Arz : Au := As Ac1 (fun d => (Ml d.1 d.2.1).val) Ary
def Aiz : Sk := ⟨[(0, .v false [(.sl 3 [.int .i64], .ro)]), (1, .v false [(.int .i64, .nil)]), (5, .v false [(.int .i64, .nil)])], [], []⟩
def Ai0 : List (Ex × Sk) := [(.ret, ⟨[(4, .v false [(.int .i64, .nil)])], [], []⟩), ((.exit 0), ⟨[(1, .v false [(.int .i64, .nil)])], [], []⟩)]
def Ac2 : Bp := fun i st => cond (Nat.beq i 2) (lam Aiz 3000000 Ai0 G8 st) <| .fail
theorem A03 : ∀ d, bod ⟨A3 tys, A1 J5, Av J5, 3, 4⟩ 0 Tryz.f385.ntmps Ac2 (Ai Tryz.f385 0) Aiz 3000000 Ai0 d = G8 d := fun d => by kernel_rfl
theorem A04 (cx : Cx) (hp : cx.pin.length ≤ 0) : Bh Tryz.prog cx Tryz.f385.ntmps Ac2 (Ai Tryz.f385 0) := Be (Aq A6 Aw (show A5 Tryz.prog J5 from trivial)) hp (Ax (by kernel_rfl : Ar (Ai Tryz.f385 0) = []) trivial) (by kernel_rfl) A03
theorem A9l : ∀ d, Bs ⟨A3 tys, A1 J5, Av J5, 3, 4⟩ 0 Ac2 Tryz.f385 .plain (mkA Ac1 d) = (Ml d.1 d.2.1).run fun r => some (Ary r) := fun d => by kernel_rfl
theorem A7k : Fn Tryz.prog 385 .plain Arz := Bu (Aq A6 Aw (show A5 Tryz.prog J5 from trivial)) Tryz.func385 (by kernel_rfl) (by kernel_rfl) (fun cx b hp hb => Ax (by kernel_rfl : Ar (Tryz.f385.body.getD .skip) = [Ai Tryz.f385 0]) ⟨A04 cx hp, trivial⟩ b hb) (R := (YI)) (T := fun (d : Bw Ac1) => Ml d.1 d.2.1) A9l
def Au8 : Au := As [(true, [.int .i64, .sl 3 [.int .i64]]), (false, [.int .i64])] (fun d => (Agg d.1 d.2.1).val) fun r => ([rv (false, [.int .i64]) r], [])
theorem A9m : Fn Tryz.prog 413 .plain Au8 := mkF [(385, .plain, Arz)] ⟨A7k, trivial⟩ Tryz.func413 (by kernel_rfl) (by kernel_rfl) (by kernel_rfl) 0 fun d => by kernel_rfl
def A05 : Au := As [(true, h_6), (false, [.int .i64])] (fun d => (Alv d.1 d.2.1).val) fun r => ([rv (false, [.int .i64]) r], [])
theorem Bc6 : Fn Tryz.prog 358 .plain A05 := mkF [(161, .plain, Ge), (413, .plain, Au8)] ⟨Ek, A9m, trivial⟩ Tryz.func358 (by kernel_rfl) (by kernel_rfl) (by kernel_rfl) 0 fun d => by kernel_rfl
def Ar0 : Au := As [(true, D4), (false, [.int .i64])] (fun d => (Aca d.1 d.2.1).val) fun r => ([rv (false, [.int .i64]) r], [])
theorem A7l : Fn Tryz.prog 238 .plain Ar0 := mkF [(161, .plain, Ge), (358, .plain, A05)] ⟨Ek, Bc6, trivial⟩ Tryz.func238 (by kernel_rfl) (by kernel_rfl) (by kernel_rfl) 0 fun d => by kernel_rfl
def Ai1 : Au := As [(true, Fk), (false, [.int .i64])] (fun d => (Sp d.1 d.2.1).val) fun r => ([rv (false, [.int .i64]) r], [])
theorem A06 : Fn Tryz.prog 69 .plain Ai1 := mkF [(161, .plain, Ge), (237, .plain, Aon), (238, .plain, Ar0)] ⟨Ek, A28, A7l, trivial⟩ Tryz.func69 (by kernel_rfl) (by kernel_rfl) (by kernel_rfl) 0 fun d => by kernel_rfl
def S7 : List (Bool × List Sh) := [(false, [.sl 44 B8]), (false, [.int .i64])]
def Ai2 (r : (YI)) : List RV × List RV := ([rv (false, [.int .i64]) r], [])
def Hb : Fns := [(161, .plain, Ge)]
def Ai3 : Au := As S7 (fun d => (Jv d.1 d.2.1).val) Ai2
def Ac3 : Sk := ⟨[(0, .v false [(.sl 44 B8, .ro)]), (1, .v false [(.int .i64, .nil)]), (5, .v false [(.int .i64, .nil)])], [], []⟩
def Ac4 : List (Ex × Sk) := [(.ret, ⟨[(4, .v false [(.int .i64, .nil)])], [], []⟩), ((.exit 0), ⟨[(1, .v false [(.int .i64, .nil)])], [], []⟩)]
def S8 : Bp := fun i st => cond (Nat.beq i 2) (lam Ac3 3000000 Ac4 Fj st) <| .fail
theorem Atw : ∀ d, bod ⟨A3 tys, A1 Hb, Av Hb, 3, 4⟩ 0 Tryz.f70.ntmps S8 (Ai Tryz.f70 0) Ac3 3000000 Ac4 d = Fj d := fun d => by kernel_rfl
theorem Atx (cx : Cx) (hp : cx.pin.length ≤ 0) : Bh Tryz.prog cx Tryz.f70.ntmps S8 (Ai Tryz.f70 0) := Be (Aq A6 Aw (show A5 Tryz.prog Hb from ⟨Ek, trivial⟩)) hp (Ax (by kernel_rfl : Ar (Ai Tryz.f70 0) = []) trivial) (by kernel_rfl) Atw
theorem A29 : ∀ d, Bs ⟨A3 tys, A1 Hb, Av Hb, 3, 4⟩ 0 S8 Tryz.f70 .plain (mkA S7 d) = (Jv d.1 d.2.1).run fun r => some (Ai2 r) := fun d => by kernel_rfl
theorem A07 : Fn Tryz.prog 70 .plain Ai3 := Bu (Aq A6 Aw (show A5 Tryz.prog Hb from ⟨Ek, trivial⟩)) Tryz.func70 (by kernel_rfl) (by kernel_rfl) (fun cx b hp hb => Ax (by kernel_rfl : Ar (Tryz.f70.body.getD .skip) = [Ai Tryz.f70 0]) ⟨Atx cx hp, trivial⟩ b hb) (R := (YI)) (T := fun (d : Bw S7) => Jv d.1 d.2.1) A29
def Vz : List (Bool × List Sh) := [(false, [.sl 93 h_9]), (false, [.int .i64])]
def Aoo (r : (YI)) : List RV × List RV := ([rv (false, [.int .i64]) r], [])
def Ie : Fns := [(161, .plain, Ge)]
def Aop : Au := As Vz (fun d => (Le d.1 d.2.1).val) Aoo
def Aep : Sk := ⟨[(0, .v false [(.sl 93 h_9, .ro)]), (1, .v false [(.int .i64, .nil)]), (5, .v false [(.int .i64, .nil)])], [], []⟩
def Aeq : List (Ex × Sk) := [(.ret, ⟨[(4, .v false [(.int .i64, .nil)])], [], []⟩), ((.exit 0), ⟨[(1, .v false [(.int .i64, .nil)])], [], []⟩)]
def V0 : Bp := fun i st => cond (Nat.beq i 2) (lam Aep 3000000 Aeq F9 st) <| .fail
theorem Aw9 : ∀ d, bod ⟨A3 tys, A1 Ie, Av Ie, 3, 4⟩ 0 Tryz.f33.ntmps V0 (Ai Tryz.f33 0) Aep 3000000 Aeq d = F9 d := fun d => by kernel_rfl
theorem Axa (cx : Cx) (hp : cx.pin.length ≤ 0) : Bh Tryz.prog cx Tryz.f33.ntmps V0 (Ai Tryz.f33 0) := Be (Aq A6 Aw (show A5 Tryz.prog Ie from ⟨Ek, trivial⟩)) hp (Ax (by kernel_rfl : Ar (Ai Tryz.f33 0) = []) trivial) (by kernel_rfl) Aw9
theorem A7m : ∀ d, Bs ⟨A3 tys, A1 Ie, Av Ie, 3, 4⟩ 0 V0 Tryz.f33 .plain (mkA Vz d) = (Le d.1 d.2.1).run fun r => some (Aoo r) := fun d => by kernel_rfl
theorem A3a : Fn Tryz.prog 33 .plain Aop := Bu (Aq A6 Aw (show A5 Tryz.prog Ie from ⟨Ek, trivial⟩)) Tryz.func33 (by kernel_rfl) (by kernel_rfl) (fun cx b hp hb => Ax (by kernel_rfl : Ar (Tryz.f33.body.getD .skip) = [Ai Tryz.f33 0]) ⟨Axa cx hp, trivial⟩ b hb) (R := (YI)) (T := fun (d : Bw Vz) => Le d.1 d.2.1) A7m
def Dp : List (Bool × List Sh) := [(true, Fk), (false, [.int .i64]), (true, B8)]
def J6 (r : (Bool × Unit)) : List RV × List RV := ([rv (false, [.bool]) r], [])
def J7 : Fns := [(58, .plain, Api), (59, .plain, Agh), (61, .plain, Apm), (62, .plain, Agk), (60, .plain, Ah6), (43, .plain, Aiq), (63, .plain, Ars), (64, .plain, Aru), (25, .plain, Au6), (65, .plain, T5), (66, (.lend [1]), Aiw), (67, (.lend [1]), Vu), (68, (.lend [1]), Aiy), (30, (.lend [1]), Aol), (69, .plain, Ai1), (70, .plain, Ai3), (33, .plain, Aop)]
def Ai4 : Au := As Dp (fun d => (C8 d.1 d.2.1 d.2.2.1).val) J6
def Ai5 : Bp := fun _ _ => .fail
theorem Ai6 : ∀ d, Bs ⟨A3 tys, A1 J7, Av J7, 3, 4⟩ 0 Ai5 Tryz.f8 .plain (mkA Dp d) = (C8 d.1 d.2.1 d.2.2.1).run fun r => some (J6 r) := fun d => by kernel_rfl
theorem Ag2 : Fn Tryz.prog 8 .plain Ai4 := Bu (Aq A6 Aw (show A5 Tryz.prog J7 from ⟨A50, Aph, A53, Apj, Azi, A0r, A7d, A7e, A9i, Rj, A01, Ait, A02, A27, A06, A07, A3a, trivial⟩)) Tryz.func8 (by kernel_rfl) (by kernel_rfl) (fun cx b hp hb => Ax (by kernel_rfl : Ar (Tryz.f8.body.getD .skip) = []) trivial b hb) (R := (Bool × Unit)) (T := fun (d : Bw Dp) => C8 d.1 d.2.1 d.2.2.1) Ai6
end
end Go.Proofs.YtggdikabbngbaaaGreat

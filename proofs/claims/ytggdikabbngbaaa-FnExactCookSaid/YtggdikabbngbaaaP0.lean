/-
  That the functions of the seat answer what the terms of text W say; nothing is assumed.
-/
import Derived.Test.YtggdikabbngbaaaW
import Derived.Test.YtggdikabbngbaaaProg
import Derived.KernelRfl
namespace Go.Proofs.Ytggdikabbngbaaa
open Go.RowKit
set_option linter.unusedVariables false
set_option maxRecDepth 100000
set_option maxHeartbeats 4000000
noncomputable section
abbrev h_0 : List Sh := [.int .i64, .int .i64, .bool, .int .u8]
abbrev h_1 : List Sh := [.sl 5 [.int .u8], .int .i64, .int .i64]
abbrev h_2 : List Sh := [.sl 3 [.int .i64], .sl 5 [.int .u8], .int .i64]
abbrev h_3 : List Sh := [.int .i64, .int .i64, .int .i64, .sl 5 [.int .u8]]
abbrev h_4 : List Sh := [.int .i64, .int .i64, .int .i64, .int .i64, .sl 5 [.int .u8]]
abbrev h_5 : List Sh := [.int .i64, .int .i64, .sl 5 [.int .u8], .sl 5 [.int .u8], .int .i64, .sl 5 [.int .u8], .sl 5 [.int .u8], .int .i64, .int .i64, .sl 5 [.int .u8], .sl 5 [.int .u8]]
def tys : List (Nat × Ty) := [(3, ⟨false, [.int .i64], [], false, []⟩),
 (4, ⟨false, [.bool], [], false, []⟩),
 (5, ⟨false, [.int .u8], [], false, []⟩),
 (9, ⟨false, [.str], [], false, []⟩),
 (22, ⟨false, [.sl 5 [.int .u8]], [], false, []⟩),
 (26, ⟨false, [.sl 42 h_3], [], false, []⟩),
 (32, ⟨false, [.sl 22 [.sl 5 [.int .u8]]], [], false, []⟩),
 (35, ⟨false, [.sl 87 h_4], [], false, []⟩),
 (42, ⟨true, h_3, [(0, 1), (1, 1), (2, 1), (3, 1)], false, []⟩),
 (44, ⟨false, [.sl 92 h_3], [], false, []⟩),
 (45, ⟨false, [.sl 96 h_4], [], false, []⟩),
 (63, ⟨false, [.sl 3 [.int .i64]], [], false, []⟩),
 (85, ⟨true, [.int .i64, .int .i64], [(0, 1), (1, 1)], true, []⟩),
 (87, ⟨true, h_4, [(0, 2), (2, 2), (4, 1)], false, []⟩),
 (92, ⟨true, h_3, [(0, 1), (1, 1), (2, 1), (3, 1)], false, []⟩),
 (94, ⟨true, [.int .i64, .int .i64], [(0, 1), (1, 1)], true, []⟩),
 (96, ⟨true, h_4, [(0, 2), (2, 2), (4, 1)], false, []⟩),
 (112, ⟨false, [.int .u64], [], false, []⟩),
 (120, ⟨true, h_2, [(0, 1), (1, 1), (2, 1)], false, []⟩)]
theorem An : Aps Try.prog tys = true := by kernel_rfl
theorem Aw : Try.prog.follows .mixedOrders = true := by kernel_rfl
theorem mkF {f : FuncId} {fn : Func} {kd : Kind} {ps : List (Bool × List Sh)} {R : Type} {T : Bj ps → Tree R} {rvs : R → List RV × List RV} (C : Fns) (hc : Av Try.prog C) (hf : Try.prog.funcs[f]? = some fn) (hn : (fn.name == "runtime.NumGoroutine") = false) (hb : fn.body.isSome = true) (hl : Ai (fn.body.getD .skip) = []) (np : Nat)
  (he : ∀ d, Bg ⟨Au tys, As C, Am C, 3, 4⟩ np (fun _ _ => .fail) fn kd (mkA ps d) = (T d).run fun r => some (rvs r)) : Fn Try.prog f kd (A3 ps (fun d => (T d).val) rvs) :=
 Bm (Aj Aw An hc) hf hn hb (fun cx b hp hbb => by rw [hl] at hbb; cases hbb) he
def Ls : A4 := A3 [(false, [.sl 5 [.int .u8]]), (false, [.int .i64])] (fun d => (Qb d.1 d.2.1).val) fun r => ([rv (false, [.int .i64]) r], [])
theorem Ki : Fn Try.prog 71 .plain Ls := mkF [] trivial Try.func71 (by kernel_rfl) (by kernel_rfl) (by kernel_rfl) 0 fun d => by kernel_rfl
def Ako : A4 := A3 [(true, h_3), (false, [.int .i64])] (fun d => (Aba d.1 d.2.1).val) fun r => ([rv (false, [.int .i64]) r], [])
theorem Aif : Fn Try.prog 69 .plain Ako := mkF [(71, .plain, Ls)] ⟨Ki, trivial⟩ Try.func69 (by kernel_rfl) (by kernel_rfl) (by kernel_rfl) 0 fun d => by kernel_rfl
def V2 : List (Bool × List Sh) := [(false, [.sl 92 h_3]), (false, [.int .i64])]
def Aig (r : (YI)) : List RV × List RV := ([rv (false, [.int .i64]) r], [])
def Ju : Fns := [(69, .plain, Ako)]
def Aih : A4 := A3 V2 (fun d => (Ly d.1 d.2.1).val) Aig
def Zz : Sk := ⟨[(0, .v false [(.sl 92 h_3, .ro)]), (1, .v false [(.int .i64, .nil)]), (5, .v false [(.int .i64, .nil)])], [], []⟩
def Z0 : List (Ex × Sk) := [(.ret, ⟨[(4, .v false [(.int .i64, .nil)])], [], []⟩), ((.exit 0), ⟨[(1, .v false [(.int .i64, .nil)])], [], []⟩)]
def V3 : Bf := fun i st => cond (Nat.beq i 5) (lam Zz 6000000 Z0 Iv st) <| .fail
theorem Akp : ∀ d, bod ⟨Au tys, As Ju, Am Ju, 3, 4⟩ 0 Try.f18.ntmps V3 (Ac Try.f18 0) Zz 6000000 Z0 d = Iv d := fun d => by kernel_rfl
theorem Akq (cx : Cx) (hp : cx.pin.length ≤ 0) : A8 Try.prog cx Try.f18.ntmps V3 (Ac Try.f18 0) := A6 (Aj Aw An (show Av Try.prog Ju from ⟨Aif, trivial⟩)) hp (Ao (by kernel_rfl : Ai (Ac Try.f18 0) = []) trivial) (by kernel_rfl) Akp
theorem Arp : ∀ d, Bg ⟨Au tys, As Ju, Am Ju, 3, 4⟩ 0 V3 Try.f18 .plain (mkA V2 d) = (Ly d.1 d.2.1).run fun r => some (Aig r) := fun d => by kernel_rfl
theorem Apt : Fn Try.prog 18 .plain Aih := Bm (Aj Aw An (show Av Try.prog Ju from ⟨Aif, trivial⟩)) Try.func18 (by kernel_rfl) (by kernel_rfl) (fun cx b hp hb => Ao (by kernel_rfl : Ai (Try.f18.body.getD .skip) = [Ac Try.f18 0]) ⟨Akq cx hp, trivial⟩ b hb) (R := (YI)) (T := fun (d : Bj V2) => Ly d.1 d.2.1) Arp
def Ade : A4 := A3 [(true, h_4), (false, [.int .i64])] (fun d => (Sx d.1 d.2.1).val) fun r => ([rv (false, [.int .i64]) r], [])
theorem Z1 : Fn Try.prog 70 .plain Ade := mkF [(71, .plain, Ls)] ⟨Ki, trivial⟩ Try.func70 (by kernel_rfl) (by kernel_rfl) (by kernel_rfl) 0 fun d => by kernel_rfl
def Qo : List (Bool × List Sh) := [(false, [.sl 96 h_4]), (false, [.int .i64])]
def Z2 (r : (YI)) : List RV × List RV := ([rv (false, [.int .i64]) r], [])
def G8 : Fns := [(70, .plain, Ade)]
def Z3 : A4 := A3 Qo (fun d => (Iw d.1 d.2.1).val) Z2
def U1 : Sk := ⟨[(0, .v false [(.sl 96 h_4, .ro)]), (1, .v false [(.int .i64, .nil)]), (5, .v false [(.int .i64, .nil)])], [], []⟩
def U2 : List (Ex × Sk) := [(.ret, ⟨[(4, .v false [(.int .i64, .nil)])], [], []⟩), ((.exit 0), ⟨[(1, .v false [(.int .i64, .nil)])], [], []⟩)]
def Qp : Bf := fun i st => cond (Nat.beq i 5) (lam U1 6000000 U2 Gv st) <| .fail
theorem Agm : ∀ d, bod ⟨Au tys, As G8, Am G8, 3, 4⟩ 0 Try.f19.ntmps Qp (Ac Try.f19 0) U1 6000000 U2 d = Gv d := fun d => by kernel_rfl
theorem Agn (cx : Cx) (hp : cx.pin.length ≤ 0) : A8 Try.prog cx Try.f19.ntmps Qp (Ac Try.f19 0) := A6 (Aj Aw An (show Av Try.prog G8 from ⟨Z1, trivial⟩)) hp (Ao (by kernel_rfl : Ai (Ac Try.f19 0) = []) trivial) (by kernel_rfl) Agm
theorem Anh : ∀ d, Bg ⟨Au tys, As G8, Am G8, 3, 4⟩ 0 Qp Try.f19 .plain (mkA Qo d) = (Iw d.1 d.2.1).run fun r => some (Z2 r) := fun d => by kernel_rfl
theorem Akr : Fn Try.prog 19 .plain Z3 := Bm (Aj Aw An (show Av Try.prog G8 from ⟨Z1, trivial⟩)) Try.func19 (by kernel_rfl) (by kernel_rfl) (fun cx b hp hb => Ao (by kernel_rfl : Ai (Try.f19.body.getD .skip) = [Ac Try.f19 0]) ⟨Agn cx hp, trivial⟩ b hb) (R := (YI)) (T := fun (d : Bj Qo) => Iw d.1 d.2.1) Anh
def N6 : List (Bool × List Sh) := [(false, [.sl 22 [.sl 5 [.int .u8]]]), (false, [.int .i64])]
def V4 (r : (YI)) : List RV × List RV := ([rv (false, [.int .i64]) r], [])
def Fy : Fns := [(71, .plain, Ls)]
def V5 : A4 := A3 N6 (fun d => (Hk d.1 d.2.1).val) V4
def Ro : Sk := ⟨[(0, .v false [(.sl 22 [.sl 5 [.int .u8]], .ro)]), (1, .v false [(.int .i64, .nil)]), (5, .v false [(.int .i64, .nil)])], [], []⟩
def Rp : List (Ex × Sk) := [(.ret, ⟨[(4, .v false [(.int .i64, .nil)])], [], []⟩), ((.exit 0), ⟨[(1, .v false [(.int .i64, .nil)])], [], []⟩)]
def N7 : Bf := fun i st => cond (Nat.beq i 5) (lam Ro 6000000 Rp Fu st) <| .fail
theorem Adf : ∀ d, bod ⟨Au tys, As Fy, Am Fy, 3, 4⟩ 0 Try.f20.ntmps N7 (Ac Try.f20 0) Ro 6000000 Rp d = Fu d := fun d => by kernel_rfl
theorem Adg (cx : Cx) (hp : cx.pin.length ≤ 0) : A8 Try.prog cx Try.f20.ntmps N7 (Ac Try.f20 0) := A6 (Aj Aw An (show Av Try.prog Fy from ⟨Ki, trivial⟩)) hp (Ao (by kernel_rfl : Ai (Ac Try.f20 0) = []) trivial) (by kernel_rfl) Adf
theorem Aks : ∀ d, Bg ⟨Au tys, As Fy, Am Fy, 3, 4⟩ 0 N7 Try.f20 .plain (mkA N6 d) = (Hk d.1 d.2.1).run fun r => some (V4 r) := fun d => by kernel_rfl
theorem Ajs : Fn Try.prog 20 .plain V5 := Bm (Aj Aw An (show Av Try.prog Fy from ⟨Ki, trivial⟩)) Try.func20 (by kernel_rfl) (by kernel_rfl) (fun cx b hp hb => Ao (by kernel_rfl : Ai (Try.f20.body.getD .skip) = [Ac Try.f20 0]) ⟨Adg cx hp, trivial⟩ b hb) (R := (YI)) (T := fun (d : Bj N6) => Hk d.1 d.2.1) Aks
def Qq : List (Bool × List Sh) := [(false, [.sl 5 [.int .u8]])]
def Z4 (r : (YBs)) : List RV × List RV := ([rv (false, [.sl 5 [.int .u8]]) r], [])
def Ha : Fns := []
def Lu : A4 := A3 Qq (fun d => (Ix d.1).val) Z4
def U3 : Sk := ⟨[(0, .v false [(.sl 5 [.int .u8], .ro)]), (3, .v false [(.sl 5 [.int .u8], (.own 4000000))]), (4, .v false [(.int .i64, .nil)])], [], [4000000]⟩
def U4 : List (Ex × Sk) := [((.exit 0), ⟨[(3, .v false [(.sl 5 [.int .u8], (.own 4000000))])], [], [4000000]⟩)]
def Qr : Bf := fun i st => cond (Nat.beq i 3) (lam U3 4000000 U4 E0 st) <| .fail
theorem Ago : ∀ d, bod ⟨Au tys, As Ha, Am Ha, 3, 4⟩ 0 Try.f74.ntmps Qr (Ac Try.f74 0) U3 4000000 U4 d = E0 d := fun d => by kernel_rfl
theorem Agp (cx : Cx) (hp : cx.pin.length ≤ 0) : A8 Try.prog cx Try.f74.ntmps Qr (Ac Try.f74 0) := A6 (Aj Aw An (show Av Try.prog Ha from trivial)) hp (Ao (by kernel_rfl : Ai (Ac Try.f74 0) = []) trivial) (by kernel_rfl) Ago
theorem Ani : ∀ d, Bg ⟨Au tys, As Ha, Am Ha, 3, 4⟩ 0 Qr Try.f74 .plain (mkA Qq d) = (Ix d.1).run fun r => some (Z4 r) := fun d => by kernel_rfl
theorem Kj : Fn Try.prog 74 .plain Lu := Bm (Aj Aw An (show Av Try.prog Ha from trivial)) Try.func74 (by kernel_rfl) (by kernel_rfl) (fun cx b hp hb => Ao (by kernel_rfl : Ai (Try.f74.body.getD .skip) = [Ac Try.f74 0]) ⟨Agp cx hp, trivial⟩ b hb) (R := (YBs)) (T := fun (d : Bj Qq) => Ix d.1) Ani
def Akt : A4 := A3 [(true, h_3)] (fun d => (Abc d.1).val) fun r => ([rv (true, h_3) r], [])
theorem Aii : Fn Try.prog 72 .plain Akt := mkF [(74, .plain, Lu)] ⟨Kj, trivial⟩ Try.func72 (by kernel_rfl) (by kernel_rfl) (by kernel_rfl) 0 fun d => by kernel_rfl
def V6 : List (Bool × List Sh) := [(false, [.sl 92 h_3])]
def Aij (r : ((List YOp) × Unit)) : List RV × List RV := ([rv (false, [.sl 42 h_3]) r], [])
def Jv : Fns := [(72, .plain, Akt)]
def Aik : A4 := A3 V6 (fun d => (Lz d.1).val) Aij
def Z5 : Sk := ⟨[(0, .v false [(.sl 92 h_3, .ro)]), (3, .v false [(.sl 42 h_3, (.own 4000000))]), (4, .v false [(.int .i64, .nil)])], [], [4000000]⟩
def Z6 : List (Ex × Sk) := [((.exit 0), ⟨[(3, .v false [(.sl 42 h_3, (.own 4000000))])], [], [4000000]⟩)]
def V7 : Bf := fun i st => cond (Nat.beq i 3) (lam Z5 4000000 Z6 G5 st) <| .fail
theorem Aku : ∀ d, bod ⟨Au tys, As Jv, Am Jv, 3, 4⟩ 0 Try.f21.ntmps V7 (Ac Try.f21 0) Z5 4000000 Z6 d = G5 d := fun d => by kernel_rfl
theorem Akv (cx : Cx) (hp : cx.pin.length ≤ 0) : A8 Try.prog cx Try.f21.ntmps V7 (Ac Try.f21 0) := A6 (Aj Aw An (show Av Try.prog Jv from ⟨Aii, trivial⟩)) hp (Ao (by kernel_rfl : Ai (Ac Try.f21 0) = []) trivial) (by kernel_rfl) Aku
theorem Arq : ∀ d, Bg ⟨Au tys, As Jv, Am Jv, 3, 4⟩ 0 V7 Try.f21 .plain (mkA V6 d) = (Lz d.1).run fun r => some (Aij r) := fun d => by kernel_rfl
theorem Apu : Fn Try.prog 21 .plain Aik := Bm (Aj Aw An (show Av Try.prog Jv from ⟨Aii, trivial⟩)) Try.func21 (by kernel_rfl) (by kernel_rfl) (fun cx b hp hb => Ao (by kernel_rfl : Ai (Try.f21.body.getD .skip) = [Ac Try.f21 0]) ⟨Akv cx hp, trivial⟩ b hb) (R := ((List YOp) × Unit)) (T := fun (d : Bj V6) => Lz d.1) Arq
def Adh : A4 := A3 [(true, [.int .i64, .int .i64])] (fun d => (Sz d.1).val) fun r => ([rv (true, [.int .i64, .int .i64]) r], [])
theorem Anj : Fn Try.prog 97 .plain Adh := mkF [] trivial Try.func97 (by kernel_rfl) (by kernel_rfl) (by kernel_rfl) 0 fun d => by kernel_rfl
def Adi : A4 := A3 [(true, h_4)] (fun d => (S1 d.1).val) fun r => ([rv (true, h_4) r], [])
theorem Z7 : Fn Try.prog 73 .plain Adi := mkF [(97, .plain, Adh), (74, .plain, Lu)] ⟨Anj, Kj, trivial⟩ Try.func73 (by kernel_rfl) (by kernel_rfl) (by kernel_rfl) 0 fun d => by kernel_rfl
def Qs : List (Bool × List Sh) := [(false, [.sl 96 h_4])]
def Z8 (r : ((List Az) × Unit)) : List RV × List RV := ([rv (false, [.sl 87 h_4]) r], [])
def Hb : Fns := [(73, .plain, Adi)]
def Z9 : A4 := A3 Qs (fun d => (Iz d.1).val) Z8
def U5 : Sk := ⟨[(0, .v false [(.sl 96 h_4, .ro)]), (3, .v false [(.sl 87 h_4, (.own 4000000))]), (4, .v false [(.int .i64, .nil)])], [], [4000000]⟩
def U6 : List (Ex × Sk) := [((.exit 0), ⟨[(3, .v false [(.sl 87 h_4, (.own 4000000))])], [], [4000000]⟩)]
def Qt : Bf := fun i st => cond (Nat.beq i 3) (lam U5 4000000 U6 E4 st) <| .fail
theorem Agq : ∀ d, bod ⟨Au tys, As Hb, Am Hb, 3, 4⟩ 0 Try.f22.ntmps Qt (Ac Try.f22 0) U5 4000000 U6 d = E4 d := fun d => by kernel_rfl
theorem Agr (cx : Cx) (hp : cx.pin.length ≤ 0) : A8 Try.prog cx Try.f22.ntmps Qt (Ac Try.f22 0) := A6 (Aj Aw An (show Av Try.prog Hb from ⟨Z7, trivial⟩)) hp (Ao (by kernel_rfl : Ai (Ac Try.f22 0) = []) trivial) (by kernel_rfl) Agq
theorem Ank : ∀ d, Bg ⟨Au tys, As Hb, Am Hb, 3, 4⟩ 0 Qt Try.f22 .plain (mkA Qs d) = (Iz d.1).run fun r => some (Z8 r) := fun d => by kernel_rfl
theorem Akw : Fn Try.prog 22 .plain Z9 := Bm (Aj Aw An (show Av Try.prog Hb from ⟨Z7, trivial⟩)) Try.func22 (by kernel_rfl) (by kernel_rfl) (fun cx b hp hb => Ao (by kernel_rfl : Ai (Try.f22.body.getD .skip) = [Ac Try.f22 0]) ⟨Agr cx hp, trivial⟩ b hb) (R := ((List Az) × Unit)) (T := fun (d : Bj Qs) => Iz d.1) Ank
def N8 : List (Bool × List Sh) := [(false, [.sl 22 [.sl 5 [.int .u8]]])]
def V8 (r : ((List YBs) × Unit)) : List RV × List RV := ([rv (false, [.sl 22 [.sl 5 [.int .u8]]]) r], [])
def Fz : Fns := [(74, .plain, Lu)]
def V9 : A4 := A3 N8 (fun d => (Hl d.1).val) V8
def Rq : Sk := ⟨[(0, .v false [(.sl 22 [.sl 5 [.int .u8]], .ro)]), (3, .v false [(.sl 22 [.sl 5 [.int .u8]], (.own 4000000))]), (4, .v false [(.int .i64, .nil)])], [], [4000000]⟩
def Rr : List (Ex × Sk) := [((.exit 0), ⟨[(3, .v false [(.sl 22 [.sl 5 [.int .u8]], (.own 4000000))])], [], [4000000]⟩)]
def N9 : Bf := fun i st => cond (Nat.beq i 3) (lam Rq 4000000 Rr Eb st) <| .fail
theorem Adj : ∀ d, bod ⟨Au tys, As Fz, Am Fz, 3, 4⟩ 0 Try.f23.ntmps N9 (Ac Try.f23 0) Rq 4000000 Rr d = Eb d := fun d => by kernel_rfl
theorem Adk (cx : Cx) (hp : cx.pin.length ≤ 0) : A8 Try.prog cx Try.f23.ntmps N9 (Ac Try.f23 0) := A6 (Aj Aw An (show Av Try.prog Fz from ⟨Kj, trivial⟩)) hp (Ao (by kernel_rfl : Ai (Ac Try.f23 0) = []) trivial) (by kernel_rfl) Adj
theorem Akx : ∀ d, Bg ⟨Au tys, As Fz, Am Fz, 3, 4⟩ 0 N9 Try.f23 .plain (mkA N8 d) = (Hl d.1).run fun r => some (V8 r) := fun d => by kernel_rfl
theorem Ajt : Fn Try.prog 23 .plain V9 := Bm (Aj Aw An (show Av Try.prog Fz from ⟨Kj, trivial⟩)) Try.func23 (by kernel_rfl) (by kernel_rfl) (fun cx b hp hb => Ao (by kernel_rfl : Ai (Try.f23.body.getD .skip) = [Ac Try.f23 0]) ⟨Adk cx hp, trivial⟩ b hb) (R := ((List YBs) × Unit)) (T := fun (d : Bj N8) => Hl d.1) Akx
def K7 : A4 := A3 [(false, [.int .i64]), (false, [.int .i64]), (false, [.int .i64])] (fun d => (Abe d.1 d.2.1 d.2.2.1).val) fun r => ([rv (false, [.bool]) r], [])
theorem Gd : Fn Try.prog 83 .plain K7 := mkF [] trivial Try.func83 (by kernel_rfl) (by kernel_rfl) (by kernel_rfl) 0 fun d => by kernel_rfl
def Adl : A4 := A3 [(true, h_3)] (fun d => (S3 d.1).val) fun r => ([rv (false, [.bool]) r], [])
theorem Qu : Fn Try.prog 63 .plain Adl := mkF [(83, .plain, K7)] ⟨Gd, trivial⟩ Try.func63 (by kernel_rfl) (by kernel_rfl) (by kernel_rfl) 0 fun d => by kernel_rfl
def Aaa : A4 := A3 [(false, [.int .i64])] (fun d => (Zw d.1).val) fun r => ([rv (false, [.int .i64]) r], [])
theorem Oa : Fn Try.prog 64 .plain Aaa := mkF [] trivial Try.func64 (by kernel_rfl) (by kernel_rfl) (by kernel_rfl) 0 fun d => by kernel_rfl
def Aop : A4 := A3 [(false, [.sl 5 [.int .u8]]), (false, [.int .i64]), (false, [.int .i64])] (fun d => (Af8 d.1 d.2.1 d.2.2.1).val) fun r => ([rv (false, [.sl 5 [.int .u8]]) r.1, rv (false, [.bool]) r.2], [])
theorem Abl : Fn Try.prog 65 .plain Aop := mkF [] trivial Try.func65 (by kernel_rfl) (by kernel_rfl) (by kernel_rfl) 0 fun d => by kernel_rfl
def Abm : List (Bool × List Sh) := [(false, [.sl 5 [.int .u8]]), (false, [.int .i64]), (false, [.int .i64])]
def Aky (r : (YBs)) : List RV × List RV := ([rv (false, [.sl 5 [.int .u8]]) r], [])
def K8 : Fns := []
def Tl : A4 := A3 Abm (fun d => (Nr d.1 d.2.1 d.2.2.1).val) Aky
def Adm : Sk := ⟨[(1, .v false [(.int .i64, .nil)]), (7, .v false [(.sl 5 [.int .u8], (.own 6000000))]), (8, .v false [(.int .i64, .nil)])], [], [6000000]⟩
def Adn : List (Ex × Sk) := [((.exit 0), ⟨[(7, .v false [(.sl 5 [.int .u8], (.own 6000000))])], [], [6000000]⟩)]
def Abn : Bf := fun i st => cond (Nat.beq i 5) (lam Adm 6000000 Adn Ie st) <| .fail
theorem Anl : ∀ d, bod ⟨Au tys, As K8, Am K8, 3, 4⟩ 0 Try.f84.ntmps Abn (Ac Try.f84 0) Adm 6000000 Adn d = Ie d := fun d => by kernel_rfl
theorem Anm (cx : Cx) (hp : cx.pin.length ≤ 0) : A8 Try.prog cx Try.f84.ntmps Abn (Ac Try.f84 0) := A6 (Aj Aw An (show Av Try.prog K8 from trivial)) hp (Ao (by kernel_rfl : Ai (Ac Try.f84 0) = []) trivial) (by kernel_rfl) Anl
theorem Ath : ∀ d, Bg ⟨Au tys, As K8, Am K8, 3, 4⟩ 0 Abn Try.f84 .plain (mkA Abm d) = (Nr d.1 d.2.1 d.2.2.1).run fun r => some (Aky r) := fun d => by kernel_rfl
theorem L6 : Fn Try.prog 84 .plain Tl := Bm (Aj Aw An (show Av Try.prog K8 from trivial)) Try.func84 (by kernel_rfl) (by kernel_rfl) (fun cx b hp hb => Ao (by kernel_rfl : Ai (Try.f84.body.getD .skip) = [Ac Try.f84 0]) ⟨Anm cx hp, trivial⟩ b hb) (R := (YBs)) (T := fun (d : Bj Abm) => Nr d.1 d.2.1 d.2.2.1) Ath
def Ags : List (Bool × List Sh) := [(false, [.int .i64])]
def Aoq (r : (YBs)) : List RV × List RV := ([rv (false, [.sl 5 [.int .u8]]) r], [])
def Nd : Fns := [(84, .plain, Tl)]
def Aor : A4 := A3 Ags (fun d => (Rh d.1).val) Aoq
def Ail : Sk := ⟨[(0, .v false [(.int .i64, .nil)]), (3, .v false [(.sl 5 [.int .u8], (.own 5000000))])], [], [5000000]⟩
def Aim : List (Ex × Sk) := [((.exit 0), ⟨[(0, .v false [(.int .i64, .nil)]), (3, .v false [(.sl 5 [.int .u8], (.own 5000000))])], [], [5000000]⟩)]
def Agt : Bf := fun i st => cond (Nat.beq i 4) (lam Ail 5000000 Aim Pe st) <| .fail
theorem Apv : ∀ d, bod ⟨Au tys, As Nd, Am Nd, 3, 4⟩ 0 Try.f106.ntmps Agt (Ac Try.f106 0) Ail 5000000 Aim d = Pe d := fun d => by kernel_rfl
theorem Apw (cx : Cx) (hp : cx.pin.length ≤ 0) : A8 Try.prog cx Try.f106.ntmps Agt (Ac Try.f106 0) := A6 (Aj Aw An (show Av Try.prog Nd from ⟨L6, trivial⟩)) hp (Ao (by kernel_rfl : Ai (Ac Try.f106 0) = []) trivial) (by kernel_rfl) Apv
theorem Au6 : ∀ d, Bg ⟨Au tys, As Nd, Am Nd, 3, 4⟩ 0 Agt Try.f106 .plain (mkA Ags d) = (Rh d.1).run fun r => some (Aoq r) := fun d => by kernel_rfl
theorem Akz : Fn Try.prog 106 .plain Aor := Bm (Aj Aw An (show Av Try.prog Nd from ⟨L6, trivial⟩)) Try.func106 (by kernel_rfl) (by kernel_rfl) (fun cx b hp hb => Ao (by kernel_rfl : Ai (Try.f106.body.getD .skip) = [Ac Try.f106 0]) ⟨Apw cx hp, trivial⟩ b hb) (R := (YBs)) (T := fun (d : Bj Ags) => Rh d.1) Au6
def Ain : A4 := A3 [] (fun d => (Aib ).val) fun r => ([rv (false, [.sl 3 [.int .i64]]) r], [])
theorem Ado : Fn Try.prog 107 .plain Ain := mkF [] trivial Try.func107 (by kernel_rfl) (by kernel_rfl) (by kernel_rfl) 0 fun d => by kernel_rfl
def Qv : List (Bool × List Sh) := [(false, [.sl 3 [.int .i64]])]
def Aab (r : (Bool × Unit)) : List RV × List RV := ([rv (false, [.bool]) r], [])
def Hc : Fns := [(83, .plain, K7)]
def Aac : A4 := A3 Qv (fun d => (I0 d.1).val) Aab
def U7 : Sk := ⟨[(0, .v false [(.sl 3 [.int .i64], .ro)]), (3, .v false [(.int .i64, .nil)])], [], []⟩
def U8 : List (Ex × Sk) := [(.ret, ⟨[(2, .v false [(.bool, .nil)])], [], []⟩), ((.exit 0), ⟨[(0, .v false [(.sl 3 [.int .i64], .ro)])], [], []⟩)]
def Qw : Bf := fun i st => cond (Nat.beq i 2) (lam U7 3000000 U8 E5 st) <| .fail
theorem Agu : ∀ d, bod ⟨Au tys, As Hc, Am Hc, 3, 4⟩ 0 Try.f113.ntmps Qw (Ac Try.f113 0) U7 3000000 U8 d = E5 d := fun d => by kernel_rfl
theorem Agv (cx : Cx) (hp : cx.pin.length ≤ 0) : A8 Try.prog cx Try.f113.ntmps Qw (Ac Try.f113 0) := A6 (Aj Aw An (show Av Try.prog Hc from ⟨Gd, trivial⟩)) hp (Ao (by kernel_rfl : Ai (Ac Try.f113 0) = []) trivial) (by kernel_rfl) Agu
theorem Ann : ∀ d, Bg ⟨Au tys, As Hc, Am Hc, 3, 4⟩ 0 Qw Try.f113 .plain (mkA Qv d) = (I0 d.1).run fun r => some (Aab r) := fun d => by kernel_rfl
theorem Ob : Fn Try.prog 113 .plain Aac := Bm (Aj Aw An (show Av Try.prog Hc from ⟨Gd, trivial⟩)) Try.func113 (by kernel_rfl) (by kernel_rfl) (fun cx b hp hb => Ao (by kernel_rfl : Ai (Try.f113.body.getD .skip) = [Ac Try.f113 0]) ⟨Agv cx hp, trivial⟩ b hb) (R := (Bool × Unit)) (T := fun (d : Bj Qv) => I0 d.1) Ann
def Aos : A4 := A3 [] (fun d => (Aon ).val) fun r => ([rv (false, [.sl 3 [.int .i64]]) r], [])
theorem Abo : Fn Try.prog 114 .plain Aos := mkF [] trivial Try.func114 (by kernel_rfl) (by kernel_rfl) (by kernel_rfl) 0 fun d => by kernel_rfl
def Abp : List (Bool × List Sh) := [(false, [.sl 5 [.int .u8]]), (false, [.int .i64]), (false, [.int .i64])]
def Ak0 (r : (YI) × (YI) × (Bool × Unit)) : List RV × List RV := ([rv (false, [.int .i64]) r.1, rv (false, [.int .i64]) r.2.1, rv (false, [.bool]) r.2.2], [])
def K9 : Fns := []
def Ak1 : A4 := A3 Abp (fun d => (Ns d.1 d.2.1 d.2.2.1).val) Ak0
def Adp : Sk := ⟨[(0, .v false [(.sl 5 [.int .u8], .ro)]), (1, .v false [(.int .i64, .nil)]), (2, .v false [(.int .i64, .nil)]), (9, .v false [(.int .i64, .nil)]), (10, .v false [(.int .i64, .nil)])], [], []⟩
def Adq : List (Ex × Sk) := [((.exit 0), ⟨[(1, .v false [(.int .i64, .nil)]), (2, .v false [(.int .i64, .nil)]), (9, .v false [(.int .i64, .nil)])], [], []⟩)]
def Abq : Bf := fun i st => cond (Nat.beq i 5) (lam Adp 6000000 Adq Gl st) <| .fail
theorem Ano : ∀ d, bod ⟨Au tys, As K9, Am K9, 3, 4⟩ 0 Try.f122.ntmps Abq (Ac Try.f122 0) Adp 6000000 Adq d = Gl d := fun d => by kernel_rfl
theorem Anp (cx : Cx) (hp : cx.pin.length ≤ 0) : A8 Try.prog cx Try.f122.ntmps Abq (Ac Try.f122 0) := A6 (Aj Aw An (show Av Try.prog K9 from trivial)) hp (Ao (by kernel_rfl : Ai (Ac Try.f122 0) = []) trivial) (by kernel_rfl) Ano
theorem Ati : ∀ d, Bg ⟨Au tys, As K9, Am K9, 3, 4⟩ 0 Abq Try.f122 .plain (mkA Abp d) = (Ns d.1 d.2.1 d.2.2.1).run fun r => some (Ak0 r) := fun d => by kernel_rfl
theorem Wa : Fn Try.prog 122 .plain Ak1 := Bm (Aj Aw An (show Av Try.prog K9 from trivial)) Try.func122 (by kernel_rfl) (by kernel_rfl) (fun cx b hp hb => Ao (by kernel_rfl : Ai (Try.f122.body.getD .skip) = [Ac Try.f122 0]) ⟨Anp cx hp, trivial⟩ b hb) (R := (YI) × (YI) × (Bool × Unit)) (T := fun (d : Bj Abp) => Ns d.1 d.2.1 d.2.2.1) Ati
def Agw : A4 := A3 [(false, [.int .i64]), (false, [.int .i64])] (fun d => (Agb d.1 d.2.1).val) fun r => ([rv (false, [.int .i64]) r], [])
theorem La : Fn Try.prog 116 .plain Agw := mkF [] trivial Try.func116 (by kernel_rfl) (by kernel_rfl) (by kernel_rfl) 0 fun d => by kernel_rfl
def Oc : List (Bool × List Sh) := [(false, [.sl 5 [.int .u8]])]
def Wb (r : ((List YI) × Unit)) : List RV × List RV := ([rv (false, [.sl 3 [.int .i64]]) r], [])
def C4 : Fns := [(122, .plain, Ak1), (116, .plain, Agw)]
def Wc : A4 := A3 Oc (fun d => (Hn d.1).val) Wb
def Ph : Sk := ⟨[(3, .v false [(.sl 3 [.int .i64], (.own 11000000))]), (8, .v false [(.int .i64, .nil)])], [], [11000000]⟩
def Pi : List (Ex × Sk) := [((.exit 2), ⟨[(3, .v false [(.sl 3 [.int .i64], (.own 11000000))])], [], [11000000]⟩)]
def Rs : Sk := ⟨[(0, .v false [(.sl 5 [.int .u8], .ro)]), (3, .v false [(.sl 3 [.int .i64], (.own 6000000))]), (4, .v false [(.int .i64, .nil)])], [], [6000000]⟩
def Rt : List (Ex × Sk) := [((.exit 0), ⟨[(3, .v false [(.sl 3 [.int .i64], (.own 6000000))])], [], [6000000]⟩)]
def Hz : Bf := fun i st => cond (Nat.beq i 5) (lam Rs 6000000 Rt Ec st) <| cond (Nat.beq i 10) (lam Ph 11000000 Pi Dq st) <| .fail
theorem Adr : ∀ d, bod ⟨Au tys, As C4, Am C4, 3, 4⟩ 0 Try.f115.ntmps Hz (Ac Try.f115 0) Rs 6000000 Rt d = Ec d := fun d => by kernel_rfl
theorem Ads (cx : Cx) (hp : cx.pin.length ≤ 0) : A8 Try.prog cx Try.f115.ntmps Hz (Ac Try.f115 0) := A6 (Aj Aw An (show Av Try.prog C4 from ⟨Wa, La, trivial⟩)) hp (Ao (by kernel_rfl : Ai (Ac Try.f115 0) = []) trivial) (by kernel_rfl) Adr
theorem Abr : ∀ d, bod ⟨Au tys, As C4, Am C4, 3, 4⟩ 0 Try.f115.ntmps Hz (Ac Try.f115 1) Ph 11000000 Pi d = Dq d := fun d => by kernel_rfl
theorem Abs (cx : Cx) (hp : cx.pin.length ≤ 0) : A8 Try.prog cx Try.f115.ntmps Hz (Ac Try.f115 1) := A6 (Aj Aw An (show Av Try.prog C4 from ⟨Wa, La, trivial⟩)) hp (Ao (by kernel_rfl : Ai (Ac Try.f115 1) = []) trivial) (by kernel_rfl) Abr
theorem Ak2 : ∀ d, Bg ⟨Au tys, As C4, Am C4, 3, 4⟩ 0 Hz Try.f115 .plain (mkA Oc d) = (Hn d.1).run fun r => some (Wb r) := fun d => by kernel_rfl
theorem Mi : Fn Try.prog 115 .plain Wc := Bm (Aj Aw An (show Av Try.prog C4 from ⟨Wa, La, trivial⟩)) Try.func115 (by kernel_rfl) (by kernel_rfl) (fun cx b hp hb => Ao (by kernel_rfl : Ai (Try.f115.body.getD .skip) = [Ac Try.f115 0, Ac Try.f115 1]) ⟨Ads cx hp, Abs cx hp, trivial⟩ b hb) (R := ((List YI) × Unit)) (T := fun (d : Bj Oc) => Hn d.1) Ak2
def Od : List (Bool × List Sh) := [(false, [.sl 3 [.int .i64]]), (false, [.sl 5 [.int .u8]])]
def Wd (r : ((List YI) × Unit)) : List RV × List RV := ([rv (false, [.sl 3 [.int .i64]]) r], [])
def C5 : Fns := [(113, .plain, Aac), (114, .plain, Aos), (115, .plain, Wc), (116, .plain, Agw)]
def We : A4 := A3 Od (fun d => (Ho d.1 d.2.1).val) Wd
def Pj : Sk := ⟨[(0, .v false [(.sl 3 [.int .i64], .ro)]), (5, .v false [(.sl 3 [.int .i64], (.own 23000000))]), (19, .v false [(.sl 3 [.int .i64], (.own 23000001))]), (20, .v false [(.int .i64, .nil)])], [], [23000000, 23000001]⟩
def Pk : List (Ex × Sk) := [((.exit 2), ⟨[(5, .v false [(.sl 3 [.int .i64], (.own 23000000))])], [], [23000000]⟩)]
def Ru : Sk := ⟨[(0, .v false [(.sl 3 [.int .i64], .ro)]), (5, .v false [(.sl 3 [.int .i64], (.own 9000000))]), (6, .v false [(.sl 3 [.int .i64], (.own 9000001))]), (7, .v false [(.sl 3 [.int .i64], (.own 9000002))]), (8, .v false [(.int .i64, .nil)]), (9, .v false [(.int .i64, .nil)]), (10, .v false [(.int .i64, .nil)]), (11, .v false [(.int .i64, .nil)]), (12, .v false [(.int .i64, .nil)]), (13, .v false [(.int .i64, .nil)]), (14, .v false [(.int .i64, .nil)]), (15, .v false [(.int .i64, .nil)]), (16, .v false [(.int .i64, .nil)])], [], [9000000, 9000001, 9000002]⟩
def Rv : List (Ex × Sk) := [((.exit 0), ⟨[(0, .v false [(.sl 3 [.int .i64], .ro)]), (5, .v false [(.sl 3 [.int .i64], (.own 9000000))]), (8, .v false [(.int .i64, .nil)]), (9, .v false [(.int .i64, .nil)]), (10, .v false [(.int .i64, .nil)]), (11, .v false [(.int .i64, .nil)]), (12, .v false [(.int .i64, .nil)]), (13, .v false [(.int .i64, .nil)]), (14, .v false [(.int .i64, .nil)]), (15, .v false [(.int .i64, .nil)])], [], [9000000]⟩)]
def H0 : Bf := fun i st => cond (Nat.beq i 8) (lam Ru 9000000 Rv Dg st) <| cond (Nat.beq i 22) (lam Pj 23000000 Pk Cv st) <| .fail
theorem Adt : ∀ d, bod ⟨Au tys, As C5, Am C5, 3, 4⟩ 0 Try.f108.ntmps H0 (Ac Try.f108 0) Ru 9000000 Rv d = Dg d := fun d => by kernel_rfl
theorem Adu (cx : Cx) (hp : cx.pin.length ≤ 0) : A8 Try.prog cx Try.f108.ntmps H0 (Ac Try.f108 0) := A6 (Aj Aw An (show Av Try.prog C5 from ⟨Ob, Abo, Mi, La, trivial⟩)) hp (Ao (by kernel_rfl : Ai (Ac Try.f108 0) = []) trivial) (by kernel_rfl) Adt
theorem Abt : ∀ d, bod ⟨Au tys, As C5, Am C5, 3, 4⟩ 0 Try.f108.ntmps H0 (Ac Try.f108 1) Pj 23000000 Pk d = Cv d := fun d => by kernel_rfl
theorem Abu (cx : Cx) (hp : cx.pin.length ≤ 0) : A8 Try.prog cx Try.f108.ntmps H0 (Ac Try.f108 1) := A6 (Aj Aw An (show Av Try.prog C5 from ⟨Ob, Abo, Mi, La, trivial⟩)) hp (Ao (by kernel_rfl : Ai (Ac Try.f108 1) = []) trivial) (by kernel_rfl) Abt
theorem Ak3 : ∀ d, Bg ⟨Au tys, As C5, Am C5, 3, 4⟩ 0 H0 Try.f108 .plain (mkA Od d) = (Ho d.1 d.2.1).run fun r => some (Wd r) := fun d => by kernel_rfl
theorem U9 : Fn Try.prog 108 .plain We := Bm (Aj Aw An (show Av Try.prog C5 from ⟨Ob, Abo, Mi, La, trivial⟩)) Try.func108 (by kernel_rfl) (by kernel_rfl) (fun cx b hp hb => Ao (by kernel_rfl : Ai (Try.f108.body.getD .skip) = [Ac Try.f108 0, Ac Try.f108 1]) ⟨Adu cx hp, Abu cx hp, trivial⟩ b hb) (R := ((List YI) × Unit)) (T := fun (d : Bj Od) => Ho d.1 d.2.1) Ak3
def Wg : List (Bool × List Sh) := [(false, [.sl 3 [.int .i64]])]
def Aio (r : (YBs)) : List RV × List RV := ([rv (false, [.sl 5 [.int .u8]]) r], [])
def Jw : Fns := [(84, .plain, Tl)]
def Aip : A4 := A3 Wg (fun d => (L0 d.1).val) Aio
def Aad : Sk := ⟨[(0, .v false [(.sl 3 [.int .i64], .ro)]), (3, .v false [(.sl 5 [.int .u8], (.own 4000000))]), (4, .v false [(.int .i64, .nil)])], [], [4000000]⟩
def Aae : List (Ex × Sk) := [((.exit 0), ⟨[(3, .v false [(.sl 5 [.int .u8], (.own 4000000))])], [], [4000000]⟩)]
def Wh : Bf := fun i st => cond (Nat.beq i 3) (lam Aad 4000000 Aae Fq st) <| .fail
theorem Ak4 : ∀ d, bod ⟨Au tys, As Jw, Am Jw, 3, 4⟩ 0 Try.f109.ntmps Wh (Ac Try.f109 0) Aad 4000000 Aae d = Fq d := fun d => by kernel_rfl
theorem Ak5 (cx : Cx) (hp : cx.pin.length ≤ 0) : A8 Try.prog cx Try.f109.ntmps Wh (Ac Try.f109 0) := A6 (Aj Aw An (show Av Try.prog Jw from ⟨L6, trivial⟩)) hp (Ao (by kernel_rfl : Ai (Ac Try.f109 0) = []) trivial) (by kernel_rfl) Ak4
theorem Arr : ∀ d, Bg ⟨Au tys, As Jw, Am Jw, 3, 4⟩ 0 Wh Try.f109 .plain (mkA Wg d) = (L0 d.1).run fun r => some (Aio r) := fun d => by kernel_rfl
theorem Adv : Fn Try.prog 109 .plain Aip := Bm (Aj Aw An (show Av Try.prog Jw from ⟨L6, trivial⟩)) Try.func109 (by kernel_rfl) (by kernel_rfl) (fun cx b hp hb => Ao (by kernel_rfl : Ai (Try.f109.body.getD .skip) = [Ac Try.f109 0]) ⟨Ak5 cx hp, trivial⟩ b hb) (R := (YBs)) (T := fun (d : Bj Wg) => L0 d.1) Arr
def Agx : List (Bool × List Sh) := [(false, [.sl 5 [.int .u8]])]
def Aot (r : (YBs)) : List RV × List RV := ([rv (false, [.sl 5 [.int .u8]]) r], [])
def Nf : Fns := [(106, .plain, Aor), (107, .plain, Ain), (108, .plain, We), (109, .plain, Aip)]
def Agy : A4 := A3 Agx (fun d => (Ri d.1).val) Aot
def Aiq : Sk := ⟨[(3, .v false [(.sl 5 [.int .u8], (.own 7000000))]), (4, .v false [(.sl 3 [.int .i64], (.own 7000001))]), (5, .v false [(.int .i64, .nil)])], [], [7000000, 7000001]⟩
def Air : List (Ex × Sk) := [((.exit 0), ⟨[(4, .v false [(.sl 3 [.int .i64], (.own 7000000))])], [], [7000000]⟩)]
def Agz : Bf := fun i st => cond (Nat.beq i 6) (lam Aiq 7000000 Air Hp st) <| .fail
theorem Apx : ∀ d, bod ⟨Au tys, As Nf, Am Nf, 3, 4⟩ 0 Try.f95.ntmps Agz (Ac Try.f95 0) Aiq 7000000 Air d = Hp d := fun d => by kernel_rfl
theorem Apy (cx : Cx) (hp : cx.pin.length ≤ 0) : A8 Try.prog cx Try.f95.ntmps Agz (Ac Try.f95 0) := A6 (Aj Aw An (show Av Try.prog Nf from ⟨Akz, Ado, U9, Adv, trivial⟩)) hp (Ao (by kernel_rfl : Ai (Ac Try.f95 0) = []) trivial) (by kernel_rfl) Apx
theorem Au7 : ∀ d, Bg ⟨Au tys, As Nf, Am Nf, 3, 4⟩ 0 Agz Try.f95 .plain (mkA Agx d) = (Ri d.1).run fun r => some (Aot r) := fun d => by kernel_rfl
theorem Tm : Fn Try.prog 95 .plain Agy := Bm (Aj Aw An (show Av Try.prog Nf from ⟨Akz, Ado, U9, Adv, trivial⟩)) Try.func95 (by kernel_rfl) (by kernel_rfl) (fun cx b hp hb => Ao (by kernel_rfl : Ai (Try.f95.body.getD .skip) = [Ac Try.f95 0]) ⟨Apy cx hp, trivial⟩ b hb) (R := (YBs)) (T := fun (d : Bj Agx) => Ri d.1) Au7
def Oe : List (Bool × List Sh) := [(false, [.sl 5 [.int .u8]])]
def Wi (r : (YBs)) : List RV × List RV := ([rv (false, [.sl 5 [.int .u8]]) r], [])
def F0 : Fns := [(95, .plain, Agy)]
def Wj : A4 := A3 Oe (fun d => (Hq d.1).val) Wi
def Rw : Sk := ⟨[(3, .v false [(.sl 5 [.int .u8], (.own 7000000))])], [], [7000000]⟩
def Rx : List (Ex × Sk) := [((.exit 0), ⟨[(3, .v false [(.sl 5 [.int .u8], (.own 7000000))])], [], [7000000]⟩)]
def Of : Bf := fun i st => cond (Nat.beq i 6) (lam Rw 7000000 Rx Fw st) <| .fail
theorem Adw : ∀ d, bod ⟨Au tys, As F0, Am F0, 3, 4⟩ 0 Try.f94.ntmps Of (Ac Try.f94 0) Rw 7000000 Rx d = Fw d := fun d => by kernel_rfl
theorem Adx (cx : Cx) (hp : cx.pin.length ≤ 0) : A8 Try.prog cx Try.f94.ntmps Of (Ac Try.f94 0) := A6 (Aj Aw An (show Av Try.prog F0 from ⟨Tm, trivial⟩)) hp (Ao (by kernel_rfl : Ai (Ac Try.f94 0) = []) trivial) (by kernel_rfl) Adw
theorem Ak6 : ∀ d, Bg ⟨Au tys, As F0, Am F0, 3, 4⟩ 0 Of Try.f94 .plain (mkA Oe d) = (Hq d.1).run fun r => some (Wi r) := fun d => by kernel_rfl
theorem Va : Fn Try.prog 94 .plain Wj := Bm (Aj Aw An (show Av Try.prog F0 from ⟨Tm, trivial⟩)) Try.func94 (by kernel_rfl) (by kernel_rfl) (fun cx b hp hb => Ao (by kernel_rfl : Ai (Try.f94.body.getD .skip) = [Ac Try.f94 0]) ⟨Adx cx hp, trivial⟩ b hb) (R := (YBs)) (T := fun (d : Bj Oe) => Hq d.1) Ak6
def Abv : List (Bool × List Sh) := [(false, [.sl 5 [.int .u8]]), (false, [.sl 5 [.int .u8]])]
def Ak7 (r : (YBs)) : List RV × List RV := ([rv (false, [.sl 5 [.int .u8]]) r], [])
def Lb : Fns := [(94, .plain, Wj), (95, .plain, Agy)]
def Og : A4 := A3 Abv (fun d => (Nv d.1 d.2.1).val) Ak7
def Ady : Sk := ⟨[(1, .v false [(.sl 5 [.int .u8], .ro)]), (5, .v false [(.sl 5 [.int .u8], (.own 8000000))]), (6, .v false [(.sl 5 [.int .u8], (.own 8000001))]), (7, .v false [(.sl 5 [.int .u8], (.own 8000002))]), (8, .v false [(.int .i64, .nil)])], [], [8000000, 8000001, 8000002]⟩
def Adz : List (Ex × Sk) := [((.exit 0), ⟨[(1, .v false [(.sl 5 [.int .u8], .ro)]), (6, .v false [(.sl 5 [.int .u8], (.own 8000000))]), (7, .v false [(.sl 5 [.int .u8], (.own 8000001))])], [], [8000000, 8000001]⟩)]
def Abw : Bf := fun i st => cond (Nat.beq i 7) (lam Ady 8000000 Adz Gm st) <| .fail
theorem Anq : ∀ d, bod ⟨Au tys, As Lb, Am Lb, 3, 4⟩ 0 Try.f66.ntmps Abw (Ac Try.f66 0) Ady 8000000 Adz d = Gm d := fun d => by kernel_rfl
theorem Anr (cx : Cx) (hp : cx.pin.length ≤ 0) : A8 Try.prog cx Try.f66.ntmps Abw (Ac Try.f66 0) := A6 (Aj Aw An (show Av Try.prog Lb from ⟨Va, Tm, trivial⟩)) hp (Ao (by kernel_rfl : Ai (Ac Try.f66 0) = []) trivial) (by kernel_rfl) Anq
theorem Atj : ∀ d, Bg ⟨Au tys, As Lb, Am Lb, 3, 4⟩ 0 Abw Try.f66 .plain (mkA Abv d) = (Nv d.1 d.2.1).run fun r => some (Ak7 r) := fun d => by kernel_rfl
theorem H1 : Fn Try.prog 66 .plain Og := Bm (Aj Aw An (show Av Try.prog Lb from ⟨Va, Tm, trivial⟩)) Try.func66 (by kernel_rfl) (by kernel_rfl) (fun cx b hp hb => Ao (by kernel_rfl : Ai (Try.f66.body.getD .skip) = [Ac Try.f66 0]) ⟨Anr cx hp, trivial⟩ b hb) (R := (YBs)) (T := fun (d : Bj Abv) => Nv d.1 d.2.1) Atj
def Aou : A4 := A3 [(false, [.sl 5 [.int .u8]]), (false, [.sl 5 [.int .u8]])] (fun d => (Agc d.1 d.2.1).val) fun r => ([rv (false, [.sl 5 [.int .u8]]) r], [])
theorem Abx : Fn Try.prog 52 .plain Aou := mkF [(66, .plain, Og)] ⟨H1, trivial⟩ Try.func52 (by kernel_rfl) (by kernel_rfl) (by kernel_rfl) 0 fun d => by kernel_rfl
def Tn : List (Bool × List Sh) := [(false, [.sl 5 [.int .u8]]), (false, [.sl 5 [.int .u8]]), (false, [.int .i64])]
def Ad0 (r : (YBs) × (Bool × Unit)) : List RV × List RV := ([rv (false, [.sl 5 [.int .u8]]) r.1, rv (false, [.bool]) r.2], [])
def Ig : Fns := [(83, .plain, K7), (66, .plain, Og)]
def Ad1 : A4 := A3 Tn (fun d => (Kb d.1 d.2.1 d.2.2.1).val) Ad0
def Wk : Sk := ⟨[(0, .v false [(.sl 5 [.int .u8], .ro)]), (1, .v false [(.sl 5 [.int .u8], .ro)]), (2, .v false [(.int .i64, .nil)]), (8, .v false [(.sl 5 [.int .u8], (.own 7000000))]), (9, .v false [(.sl 5 [.int .u8], (.own 7000001))]), (10, .v false [(.int .i64, .nil)])], [], [7000000, 7000001]⟩
def Wl : List (Ex × Sk) := [((.exit 0), ⟨[(2, .v false [(.int .i64, .nil)]), (8, .v false [(.sl 5 [.int .u8], (.own 7000000))])], [], [7000000]⟩)]
def To : Bf := fun i st => cond (Nat.beq i 6) (lam Wk 7000000 Wl El st) <| .fail
theorem Aju : ∀ d, bod ⟨Au tys, As Ig, Am Ig, 3, 4⟩ 0 Try.f96.ntmps To (Ac Try.f96 0) Wk 7000000 Wl d = El d := fun d => by kernel_rfl
theorem Ajv (cx : Cx) (hp : cx.pin.length ≤ 0) : A8 Try.prog cx Try.f96.ntmps To (Ac Try.f96 0) := A6 (Aj Aw An (show Av Try.prog Ig from ⟨Gd, H1, trivial⟩)) hp (Ao (by kernel_rfl : Ai (Ac Try.f96 0) = []) trivial) (by kernel_rfl) Aju
theorem Apz : ∀ d, Bg ⟨Au tys, As Ig, Am Ig, 3, 4⟩ 0 To Try.f96 .plain (mkA Tn d) = (Kb d.1 d.2.1 d.2.2.1).run fun r => some (Ad0 r) := fun d => by kernel_rfl
theorem Ant : Fn Try.prog 96 .plain Ad1 := Bm (Aj Aw An (show Av Try.prog Ig from ⟨Gd, H1, trivial⟩)) Try.func96 (by kernel_rfl) (by kernel_rfl) (fun cx b hp hb => Ao (by kernel_rfl : Ai (Try.f96.body.getD .skip) = [Ac Try.f96 0]) ⟨Ajv cx hp, trivial⟩ b hb) (R := (YBs) × (Bool × Unit)) (T := fun (d : Bj Tn) => Kb d.1 d.2.1 d.2.2.1) Apz
def Ad2 : A4 := A3 [(false, [.sl 5 [.int .u8]]), (false, [.str])] (fun d => (S6 d.1 d.2.1).val) fun r => ([rv (false, [.sl 5 [.int .u8]]) r], [])
theorem Qx : Fn Try.prog 67 .plain Ad2 := mkF [(96, .plain, Ad1)] ⟨Ant, trivial⟩ Try.func67 (by kernel_rfl) (by kernel_rfl) (by kernel_rfl) 0 fun d => by kernel_rfl
def Aaf : A4 := A3 [(false, [.sl 5 [.int .u8]]), (false, [.sl 5 [.int .u8]]), (false, [.int .i64])] (fun d => (Qe d.1 d.2.1 d.2.2.1).val) fun r => ([rv (false, [.sl 5 [.int .u8]]) r], [])
theorem Wm : Fn Try.prog 104 .plain Aaf := mkF [(83, .plain, K7), (84, .plain, Tl), (66, .plain, Og)] ⟨Gd, L6, H1, trivial⟩ Try.func104 (by kernel_rfl) (by kernel_rfl) (by kernel_rfl) 0 fun d => by kernel_rfl
def Tp : List (Bool × List Sh) := [(false, [.sl 5 [.int .u8]]), (false, [.sl 5 [.int .u8]]), (false, [.int .i64])]
def Ad3 (r : (YBs)) : List RV × List RV := ([rv (false, [.sl 5 [.int .u8]]) r], [])
def Ih : Fns := [(83, .plain, K7), (104, .plain, Aaf)]
def Ad4 : A4 := A3 Tp (fun d => (Kc d.1 d.2.1 d.2.2.1).val) Ad3
def Wn : Sk := ⟨[(0, .v false [(.sl 5 [.int .u8], .ro)]), (1, .v false [(.sl 5 [.int .u8], .ro)]), (2, .v false [(.int .i64, .nil)]), (7, .v false [(.sl 5 [.int .u8], (.own 6000000))]), (8, .v false [(.int .i64, .nil)])], [], [6000000]⟩
def Wo : List (Ex × Sk) := [((.exit 0), ⟨[(2, .v false [(.int .i64, .nil)]), (7, .v false [(.sl 5 [.int .u8], (.own 6000000))])], [], [6000000]⟩)]
def Tq : Bf := fun i st => cond (Nat.beq i 5) (lam Wn 6000000 Wo Em st) <| .fail
theorem Ajw : ∀ d, bod ⟨Au tys, As Ih, Am Ih, 3, 4⟩ 0 Try.f85.ntmps Tq (Ac Try.f85 0) Wn 6000000 Wo d = Em d := fun d => by kernel_rfl
theorem Ajx (cx : Cx) (hp : cx.pin.length ≤ 0) : A8 Try.prog cx Try.f85.ntmps Tq (Ac Try.f85 0) := A6 (Aj Aw An (show Av Try.prog Ih from ⟨Gd, Wm, trivial⟩)) hp (Ao (by kernel_rfl : Ai (Ac Try.f85 0) = []) trivial) (by kernel_rfl) Ajw
theorem Ap0 : ∀ d, Bg ⟨Au tys, As Ih, Am Ih, 3, 4⟩ 0 Tq Try.f85 .plain (mkA Tp d) = (Kc d.1 d.2.1 d.2.2.1).run fun r => some (Ad3 r) := fun d => by kernel_rfl
theorem Aag : Fn Try.prog 85 .plain Ad4 := Bm (Aj Aw An (show Av Try.prog Ih from ⟨Gd, Wm, trivial⟩)) Try.func85 (by kernel_rfl) (by kernel_rfl) (fun cx b hp hb => Ao (by kernel_rfl : Ai (Try.f85.body.getD .skip) = [Ac Try.f85 0]) ⟨Ajx cx hp, trivial⟩ b hb) (R := (YBs)) (T := fun (d : Bj Tp) => Kc d.1 d.2.1 d.2.2.1) Ap0
def Ag0 : List (Bool × List Sh) := [(false, [.sl 5 [.int .u8]]), (false, [.sl 5 [.int .u8]]), (false, [.sl 5 [.int .u8]])]
def Aov (r : (YBs)) : List RV × List RV := ([rv (false, [.sl 5 [.int .u8]]) r], [])
def Ng : Fns := [(85, .plain, Ad4)]
def Aow : A4 := A3 Ag0 (fun d => (Rk d.1 d.2.1 d.2.2.1).val) Aov
def Ais : Sk := ⟨[(2, .v false [(.sl 5 [.int .u8], .ro)]), (7, .v false [(.sl 5 [.int .u8], (.own 7000000))]), (8, .v false [(.sl 5 [.int .u8], (.own 7000001))]), (9, .v false [(.int .i64, .nil)])], [], [7000000, 7000001]⟩
def Ait : List (Ex × Sk) := [((.exit 0), ⟨[(7, .v false [(.sl 5 [.int .u8], (.own 7000000))])], [], [7000000]⟩)]
def Ag1 : Bf := fun i st => cond (Nat.beq i 6) (lam Ais 7000000 Ait Hr st) <| .fail
theorem Ap1 : ∀ d, bod ⟨Au tys, As Ng, Am Ng, 3, 4⟩ 0 Try.f51.ntmps Ag1 (Ac Try.f51 0) Ais 7000000 Ait d = Hr d := fun d => by kernel_rfl
theorem Ap2 (cx : Cx) (hp : cx.pin.length ≤ 0) : A8 Try.prog cx Try.f51.ntmps Ag1 (Ac Try.f51 0) := A6 (Aj Aw An (show Av Try.prog Ng from ⟨Aag, trivial⟩)) hp (Ao (by kernel_rfl : Ai (Ac Try.f51 0) = []) trivial) (by kernel_rfl) Ap1
theorem Au8 : ∀ d, Bg ⟨Au tys, As Ng, Am Ng, 3, 4⟩ 0 Ag1 Try.f51 .plain (mkA Ag0 d) = (Rk d.1 d.2.1 d.2.2.1).run fun r => some (Aov r) := fun d => by kernel_rfl
theorem Aby : Fn Try.prog 51 .plain Aow := Bm (Aj Aw An (show Av Try.prog Ng from ⟨Aag, trivial⟩)) Try.func51 (by kernel_rfl) (by kernel_rfl) (fun cx b hp hb => Ao (by kernel_rfl : Ai (Try.f51.body.getD .skip) = [Ac Try.f51 0]) ⟨Ap2 cx hp, trivial⟩ b hb) (R := (YBs)) (T := fun (d : Bj Ag0) => Rk d.1 d.2.1 d.2.2.1) Au8
def Abz : List (Bool × List Sh) := [(false, [.sl 42 h_3]), (false, [.sl 87 h_4]), (false, [.sl 22 [.sl 5 [.int .u8]]])]
def Ak8 (r : (YBs) × (Bool × Unit)) : List RV × List RV := ([rv (false, [.sl 5 [.int .u8]]) r.1, rv (false, [.bool]) r.2], [])
def Gp : Fns := [(63, .plain, Adl), (64, .plain, Aaa), (65, .plain, Aop), (66, .plain, Og), (52, .plain, Aou), (67, .plain, Ad2), (51, .plain, Aow)]
def Ak9 : A4 := A3 Abz (fun d => (Nx d.1 d.2.1 d.2.2.1).val) Ak8
def Ad5 : Sk := ⟨[(0, .v false [(.sl 42 h_3, .ro)]), (1, .v false [(.sl 87 h_4, .ro)]), (2, .v false [(.sl 22 [.sl 5 [.int .u8]], .ro)]), (8, .v false [(.sl 22 [.sl 5 [.int .u8]], (.own 6000000))]), (9, .v false [(.int .i64, .nil)])], [], [6000000]⟩
def Ad6 : List (Ex × Sk) := [(.ret, ⟨[(6, .v false [(.sl 5 [.int .u8], (.own 6000000))]), (7, .v false [(.bool, .nil)])], [], [6000000]⟩), ((.exit 0), ⟨[(8, .v false [(.sl 22 [.sl 5 [.int .u8]], (.own 6000000))])], [], [6000000]⟩)]
def Aah : Sk := ⟨[(0, .v false [(.sl 42 h_3, .ro)]), (1, .v false [(.sl 87 h_4, .ro)]), (2, .v false [(.sl 22 [.sl 5 [.int .u8]], .ro)]), (8, .v false [(.sl 22 [.sl 5 [.int .u8]], (.own 35000000))]), (9, .v false [(.int .i64, .nil)]), (11, .v false [(.int .i64, .nil)]), (12, .v false [(.sl 5 [.int .u8], (.own 35000001))]), (15, .v false [(.int .i64, .nil)])], [], [35000000, 35000001]⟩
def Aai : List (Ex × Sk) := [((.exit 3), ⟨[(0, .v false [(.sl 42 h_3, .ro)]), (1, .v false [(.sl 87 h_4, .ro)]), (2, .v false [(.sl 22 [.sl 5 [.int .u8]], .ro)]), (8, .v false [(.sl 22 [.sl 5 [.int .u8]], (.own 35000000))]), (9, .v false [(.int .i64, .nil)]), (11, .v false [(.int .i64, .nil)]), (12, .v false [(.sl 5 [.int .u8], (.own 35000001))])], [], [35000000, 35000001]⟩)]
def Oh : Bf := fun i st => cond (Nat.beq i 34) (lam Aah 35000000 Aai Fr st) <| cond (Nat.beq i 5) (lam Ad5 6000000 Ad6 D4 st) <| .fail
theorem Ala : ∀ d, bod ⟨Au tys, As Gp, Am Gp, 3, 4⟩ 0 Try.f16.ntmps Oh (Ac Try.f16 1) Aah 35000000 Aai d = Fr d := fun d => by kernel_rfl
theorem Alb (cx : Cx) (hp : cx.pin.length ≤ 0) : A8 Try.prog cx Try.f16.ntmps Oh (Ac Try.f16 1) := A6 (Aj Aw An (show Av Try.prog Gp from ⟨Qu, Oa, Abl, H1, Abx, Qx, Aby, trivial⟩)) hp (Ao (by kernel_rfl : Ai (Ac Try.f16 1) = []) trivial) (by kernel_rfl) Ala
theorem Anu : ∀ d, bod ⟨Au tys, As Gp, Am Gp, 3, 4⟩ 0 Try.f16.ntmps Oh (Ac Try.f16 0) Ad5 6000000 Ad6 d = D4 d := fun d => by kernel_rfl
theorem Anv (cx : Cx) (hp : cx.pin.length ≤ 0) : A8 Try.prog cx Try.f16.ntmps Oh (Ac Try.f16 0) := A6 (Aj Aw An (show Av Try.prog Gp from ⟨Qu, Oa, Abl, H1, Abx, Qx, Aby, trivial⟩)) hp (Ao (by kernel_rfl : Ai (Ac Try.f16 0) = [Ac Try.f16 1]) ⟨Alb cx hp, trivial⟩) (by kernel_rfl) Anu
theorem Atk : ∀ d, Bg ⟨Au tys, As Gp, Am Gp, 3, 4⟩ 0 Oh Try.f16 .plain (mkA Abz d) = (Nx d.1 d.2.1 d.2.2.1).run fun r => some (Ak8 r) := fun d => by kernel_rfl
theorem Ars : Fn Try.prog 16 .plain Ak9 := Bm (Aj Aw An (show Av Try.prog Gp from ⟨Qu, Oa, Abl, H1, Abx, Qx, Aby, trivial⟩)) Try.func16 (by kernel_rfl) (by kernel_rfl) (fun cx b hp hb => Ao (by kernel_rfl : Ai (Try.f16.body.getD .skip) = [Ac Try.f16 0]) ⟨Anv cx hp, trivial⟩ b hb) (R := (YBs) × (Bool × Unit)) (T := fun (d : Bj Abz) => Nx d.1 d.2.1 d.2.2.1) Atk
def Wp : A4 := A3 [(false, [.int .i64])] (fun d => (Ny d.1).val) fun r => ([rv (false, [.int .i64]) r], [])
theorem Vb : Fn Try.prog 54 .plain Wp := mkF [] trivial Try.func54 (by kernel_rfl) (by kernel_rfl) (by kernel_rfl) 0 fun d => by kernel_rfl
def Fi : A4 := A3 [(false, [.int .i64]), (false, [.int .i64]), (false, [.int .i64])] (fun d => (S8 d.1 d.2.1 d.2.2.1).val) fun r => ([rv (false, [.bool]) r], [])
theorem Co : Fn Try.prog 37 .plain Fi := mkF [] trivial Try.func37 (by kernel_rfl) (by kernel_rfl) (by kernel_rfl) 0 fun d => by kernel_rfl
def Ad7 : A4 := A3 [(true, h_3)] (fun d => (S9 d.1).val) fun r => ([rv (false, [.bool]) r], [])
theorem Aaj : Fn Try.prog 55 .plain Ad7 := mkF [(37, .plain, Fi)] ⟨Co, trivial⟩ Try.func55 (by kernel_rfl) (by kernel_rfl) (by kernel_rfl) 0 fun d => by kernel_rfl
def Ag2 : A4 := A3 [(false, [.sl 5 [.int .u8]]), (false, [.int .i64]), (false, [.int .i64])] (fun d => (Agf d.1 d.2.1 d.2.2.1).val) fun r => ([rv (false, [.sl 5 [.int .u8]]) r.1, rv (false, [.bool]) r.2], [])
theorem Ab0 : Fn Try.prog 87 .plain Ag2 := mkF [] trivial Try.func87 (by kernel_rfl) (by kernel_rfl) (by kernel_rfl) 0 fun d => by kernel_rfl
def Tr : List (Bool × List Sh) := [(false, [.sl 22 [.sl 5 [.int .u8]]])]
def Ad8 (r : (YBs)) : List RV × List RV := ([rv (false, [.sl 5 [.int .u8]]) r], [])
def Ii : Fns := []
def Gq : A4 := A3 Tr (fun d => (Kd d.1).val) Ad8
def Wq : Sk := ⟨[(3, .v false [(.sl 5 [.int .u8], (.own 4000000))]), (7, .v false [(.sl 22 [.sl 5 [.int .u8]], .ro)]), (8, .v false [(.int .i64, .nil)]), (9, .v false [(.int .i64, .nil)])], [], [4000000]⟩
def Wr : List (Ex × Sk) := [((.exit 0), ⟨[(3, .v false [(.sl 5 [.int .u8], (.own 4000000))])], [], [4000000]⟩)]
def Ts : Bf := fun i st => cond (Nat.beq i 3) (lam Wq 4000000 Wr En st) <| .fail
theorem Ajy : ∀ d, bod ⟨Au tys, As Ii, Am Ii, 3, 4⟩ 0 Try.f38.ntmps Ts (Ac Try.f38 0) Wq 4000000 Wr d = En d := fun d => by kernel_rfl
theorem Ajz (cx : Cx) (hp : cx.pin.length ≤ 0) : A8 Try.prog cx Try.f38.ntmps Ts (Ac Try.f38 0) := A6 (Aj Aw An (show Av Try.prog Ii from trivial)) hp (Ao (by kernel_rfl : Ai (Ac Try.f38 0) = []) trivial) (by kernel_rfl) Ajy
theorem Ap3 : ∀ d, Bg ⟨Au tys, As Ii, Am Ii, 3, 4⟩ 0 Ts Try.f38 .plain (mkA Tr d) = (Kd d.1).run fun r => some (Ad8 r) := fun d => by kernel_rfl
theorem Ft : Fn Try.prog 38 .plain Gq := Bm (Aj Aw An (show Av Try.prog Ii from trivial)) Try.func38 (by kernel_rfl) (by kernel_rfl) (fun cx b hp hb => Ao (by kernel_rfl : Ai (Try.f38.body.getD .skip) = [Ac Try.f38 0]) ⟨Ajz cx hp, trivial⟩ b hb) (R := (YBs)) (T := fun (d : Bj Tr) => Kd d.1) Ap3
def Ws : List (Bool × List Sh) := [(false, [.sl 5 [.int .u8]]), (false, [.sl 5 [.int .u8]])]
def Aiu (r : (YBs)) : List RV × List RV := ([rv (false, [.sl 5 [.int .u8]]) r], [])
def Jx : Fns := []
def Aiv : A4 := A3 Ws (fun d => (L3 d.1 d.2.1).val) Aiu
def Aak : Sk := ⟨[(1, .v false [(.sl 5 [.int .u8], .ro)]), (5, .v false [(.sl 5 [.int .u8], (.own 4000000))]), (9, .v false [(.sl 5 [.int .u8], .ro)]), (10, .v false [(.int .i64, .nil)]), (11, .v false [(.int .i64, .nil)])], [], [4000000]⟩
def Aal : List (Ex × Sk) := [((.exit 0), ⟨[(5, .v false [(.sl 5 [.int .u8], (.own 4000000))])], [], [4000000]⟩)]
def Wt : Bf := fun i st => cond (Nat.beq i 3) (lam Aak 4000000 Aal Fs st) <| .fail
theorem Alc : ∀ d, bod ⟨Au tys, As Jx, Am Jx, 3, 4⟩ 0 Try.f88.ntmps Wt (Ac Try.f88 0) Aak 4000000 Aal d = Fs d := fun d => by kernel_rfl
theorem Ald (cx : Cx) (hp : cx.pin.length ≤ 0) : A8 Try.prog cx Try.f88.ntmps Wt (Ac Try.f88 0) := A6 (Aj Aw An (show Av Try.prog Jx from trivial)) hp (Ao (by kernel_rfl : Ai (Ac Try.f88 0) = []) trivial) (by kernel_rfl) Alc
theorem Art : ∀ d, Bg ⟨Au tys, As Jx, Am Jx, 3, 4⟩ 0 Wt Try.f88 .plain (mkA Ws d) = (L3 d.1 d.2.1).run fun r => some (Aiu r) := fun d => by kernel_rfl
theorem Ap4 : Fn Try.prog 88 .plain Aiv := Bm (Aj Aw An (show Av Try.prog Jx from trivial)) Try.func88 (by kernel_rfl) (by kernel_rfl) (fun cx b hp hb => Ao (by kernel_rfl : Ai (Try.f88.body.getD .skip) = [Ac Try.f88 0]) ⟨Ald cx hp, trivial⟩ b hb) (R := (YBs)) (T := fun (d : Bj Ws) => L3 d.1 d.2.1) Art
def H2 : A4 := A3 [(false, [.sl 5 [.int .u8]])] (fun d => (Vz d.1).val) fun r => ([rv (false, [.sl 5 [.int .u8]]) r], [])
theorem Dl : Fn Try.prog 41 .plain H2 := mkF [] trivial Try.func41 (by kernel_rfl) (by kernel_rfl) (by kernel_rfl) 0 fun d => by kernel_rfl
def Aiw : A4 := A3 [] (fun d => (Aid ).val) fun r => ([rv (false, [.sl 3 [.int .i64]]) r], [])
theorem Ap5 : Fn Try.prog 121 .plain Aiw := mkF [] trivial Try.func121 (by kernel_rfl) (by kernel_rfl) (by kernel_rfl) 0 fun d => by kernel_rfl
def Aam : A4 := A3 [] (fun d => (Zx ).val) fun r => ([rv (true, h_2) r], [])
theorem Ale : Fn Try.prog 112 .plain Aam := mkF [(121, .plain, Aiw)] ⟨Ap5, trivial⟩ Try.func112 (by kernel_rfl) (by kernel_rfl) (by kernel_rfl) 0 fun d => by kernel_rfl
def Oi : List (Bool × List Sh) := [(false, [.sl 3 [.int .i64]]), (false, [.int .i64])]
def Wu (r : (Bool × Unit)) : List RV × List RV := ([rv (false, [.bool]) r], [])
def F2 : Fns := [(37, .plain, Fi)]
def Oj : A4 := A3 Oi (fun d => (Hs d.1 d.2.1).val) Wu
def Ry : Sk := ⟨[(0, .v false [(.sl 3 [.int .i64], .ro)]), (1, .v false [(.int .i64, .nil)]), (7, .v false [(.sl 3 [.int .i64], .ro)]), (8, .v false [(.int .i64, .nil)]), (9, .v false [(.int .i64, .nil)])], [], []⟩
def Rz : List (Ex × Sk) := [(.ret, ⟨[(4, .v false [(.bool, .nil)])], [], []⟩), ((.exit 0), ⟨[(0, .v false [(.sl 3 [.int .i64], .ro)]), (1, .v false [(.int .i64, .nil)])], [], []⟩)]
def Ok : Bf := fun i st => cond (Nat.beq i 2) (lam Ry 3000000 Rz Ed st) <| .fail
theorem Ad9 : ∀ d, bod ⟨Au tys, As F2, Am F2, 3, 4⟩ 0 Try.f123.ntmps Ok (Ac Try.f123 0) Ry 3000000 Rz d = Ed d := fun d => by kernel_rfl
theorem Aea (cx : Cx) (hp : cx.pin.length ≤ 0) : A8 Try.prog cx Try.f123.ntmps Ok (Ac Try.f123 0) := A6 (Aj Aw An (show Av Try.prog F2 from ⟨Co, trivial⟩)) hp (Ao (by kernel_rfl : Ai (Ac Try.f123 0) = []) trivial) (by kernel_rfl) Ad9
theorem Alf : ∀ d, Bg ⟨Au tys, As F2, Am F2, 3, 4⟩ 0 Ok Try.f123 .plain (mkA Oi d) = (Hs d.1 d.2.1).run fun r => some (Wu r) := fun d => by kernel_rfl
theorem Jg : Fn Try.prog 123 .plain Oj := Bm (Aj Aw An (show Av Try.prog F2 from ⟨Co, trivial⟩)) Try.func123 (by kernel_rfl) (by kernel_rfl) (fun cx b hp hb => Ao (by kernel_rfl : Ai (Try.f123.body.getD .skip) = [Ac Try.f123 0]) ⟨Aea cx hp, trivial⟩ b hb) (R := (Bool × Unit)) (T := fun (d : Bj Oi) => Hs d.1 d.2.1) Alf
def Tt : A4 := A3 [(true, h_2)] (fun d => (Tb d.1).val) fun r => ([rv (false, [.bool]) r], [])
theorem Aan : Fn Try.prog 117 .plain Tt := mkF [(123, .plain, Oj), (37, .plain, Fi)] ⟨Jg, Co, trivial⟩ Try.func117 (by kernel_rfl) (by kernel_rfl) (by kernel_rfl) 0 fun d => by kernel_rfl
def Ab1 : List (Bool × List Sh) := [(false, [.sl 5 [.int .u8]]), (false, [.int .i64]), (false, [.int .i64])]
def Alg (r : (YI) × (YI) × (Bool × Unit)) : List RV × List RV := ([rv (false, [.int .i64]) r.1, rv (false, [.int .i64]) r.2.1, rv (false, [.bool]) r.2.2], [])
def Lc : Fns := [(87, .plain, Ag2)]
def Alh : A4 := A3 Ab1 (fun d => (Nz d.1 d.2.1 d.2.2.1).val) Alg
def Aeb : Sk := ⟨[(1, .v false [(.int .i64, .nil)]), (2, .v false [(.int .i64, .nil)]), (11, .v false [(.int .i64, .nil)]), (29, .v false [(.sl 5 [.int .u8], (.own 9000000))]), (30, .v false [(.int .i64, .nil)]), (31, .v false [(.int .i64, .nil)])], [], [9000000]⟩
def Aec : List (Ex × Sk) := [((.exit 0), ⟨[(1, .v false [(.int .i64, .nil)]), (2, .v false [(.int .i64, .nil)]), (11, .v false [(.int .i64, .nil)])], [], []⟩)]
def Ab2 : Bf := fun i st => cond (Nat.beq i 8) (lam Aeb 9000000 Aec Gn st) <| .fail
theorem Anw : ∀ d, bod ⟨Au tys, As Lc, Am Lc, 3, 4⟩ 0 Try.f129.ntmps Ab2 (Ac Try.f129 0) Aeb 9000000 Aec d = Gn d := fun d => by kernel_rfl
theorem Anx (cx : Cx) (hp : cx.pin.length ≤ 0) : A8 Try.prog cx Try.f129.ntmps Ab2 (Ac Try.f129 0) := A6 (Aj Aw An (show Av Try.prog Lc from ⟨Ab0, trivial⟩)) hp (Ao (by kernel_rfl : Ai (Ac Try.f129 0) = []) trivial) (by kernel_rfl) Anw
theorem Atl : ∀ d, Bg ⟨Au tys, As Lc, Am Lc, 3, 4⟩ 0 Ab2 Try.f129 .plain (mkA Ab1 d) = (Nz d.1 d.2.1 d.2.2.1).run fun r => some (Alg r) := fun d => by kernel_rfl
theorem Wv : Fn Try.prog 129 .plain Alh := Bm (Aj Aw An (show Av Try.prog Lc from ⟨Ab0, trivial⟩)) Try.func129 (by kernel_rfl) (by kernel_rfl) (fun cx b hp hb => Ao (by kernel_rfl : Ai (Try.f129.body.getD .skip) = [Ac Try.f129 0]) ⟨Anx cx hp, trivial⟩ b hb) (R := (YI) × (YI) × (Bool × Unit)) (T := fun (d : Bj Ab1) => Nz d.1 d.2.1 d.2.2.1) Atl
def Ag3 : A4 := A3 [(false, [.int .i64]), (false, [.int .i64])] (fun d => (Agg d.1 d.2.1).val) fun r => ([rv (false, [.int .i64]) r], [])
theorem Ld : Fn Try.prog 126 .plain Ag3 := mkF [] trivial Try.func126 (by kernel_rfl) (by kernel_rfl) (by kernel_rfl) 0 fun d => by kernel_rfl
def Ol : List (Bool × List Sh) := [(false, [.sl 5 [.int .u8]])]
def Ww (r : ((List YI) × Unit)) : List RV × List RV := ([rv (false, [.sl 3 [.int .i64]]) r], [])
def C6 : Fns := [(129, .plain, Alh), (126, .plain, Ag3)]
def Wx : A4 := A3 Ol (fun d => (Ht d.1).val) Ww
def R0 : Sk := ⟨[(3, .v false [(.sl 3 [.int .i64], (.own 10000000))]), (5, .v false [(.int .i64, .nil)])], [], [10000000]⟩
def R1 : List (Ex × Sk) := [((.exit 2), ⟨[(3, .v false [(.sl 3 [.int .i64], (.own 10000000))])], [], [10000000]⟩)]
def R2 : Sk := ⟨[(0, .v false [(.sl 5 [.int .u8], .ro)]), (3, .v false [(.sl 3 [.int .i64], (.own 6000000))]), (4, .v false [(.int .i64, .nil)])], [], [6000000]⟩
def R3 : List (Ex × Sk) := [((.exit 0), ⟨[(3, .v false [(.sl 3 [.int .i64], (.own 6000000))])], [], [6000000]⟩)]
def H3 : Bf := fun i st => cond (Nat.beq i 5) (lam R2 6000000 R3 Ee st) <| cond (Nat.beq i 9) (lam R0 10000000 R1 Eg st) <| .fail
theorem Aed : ∀ d, bod ⟨Au tys, As C6, Am C6, 3, 4⟩ 0 Try.f125.ntmps H3 (Ac Try.f125 0) R2 6000000 R3 d = Ee d := fun d => by kernel_rfl
theorem Aee (cx : Cx) (hp : cx.pin.length ≤ 0) : A8 Try.prog cx Try.f125.ntmps H3 (Ac Try.f125 0) := A6 (Aj Aw An (show Av Try.prog C6 from ⟨Wv, Ld, trivial⟩)) hp (Ao (by kernel_rfl : Ai (Ac Try.f125 0) = []) trivial) (by kernel_rfl) Aed
theorem Aef : ∀ d, bod ⟨Au tys, As C6, Am C6, 3, 4⟩ 0 Try.f125.ntmps H3 (Ac Try.f125 1) R0 10000000 R1 d = Eg d := fun d => by kernel_rfl
theorem Aeg (cx : Cx) (hp : cx.pin.length ≤ 0) : A8 Try.prog cx Try.f125.ntmps H3 (Ac Try.f125 1) := A6 (Aj Aw An (show Av Try.prog C6 from ⟨Wv, Ld, trivial⟩)) hp (Ao (by kernel_rfl : Ai (Ac Try.f125 1) = []) trivial) (by kernel_rfl) Aef
theorem Ali : ∀ d, Bg ⟨Au tys, As C6, Am C6, 3, 4⟩ 0 H3 Try.f125 .plain (mkA Ol d) = (Ht d.1).run fun r => some (Ww r) := fun d => by kernel_rfl
theorem Mj : Fn Try.prog 125 .plain Wx := Bm (Aj Aw An (show Av Try.prog C6 from ⟨Wv, Ld, trivial⟩)) Try.func125 (by kernel_rfl) (by kernel_rfl) (fun cx b hp hb => Ao (by kernel_rfl : Ai (Try.f125.body.getD .skip) = [Ac Try.f125 0, Ac Try.f125 1]) ⟨Aee cx hp, Aeg cx hp, trivial⟩ b hb) (R := ((List YI) × Unit)) (T := fun (d : Bj Ol) => Ht d.1) Ali
theorem Aru (n : Int) (w : World) (h0 : 0 ≤ n) (h1 : n ≤ 63) :
  Calls Try.prog 127 #[.int .i64 n] w (Ret w (.int .i64 (I4[n.toNat]?.getD 0))) := by
 have hx : ∃ x, I4[n.toNat]? = some x := ⟨_, List.getElem?_eq_getElem (by simp [I4]; omega)⟩
 obtain ⟨x, hx⟩ := hx
 have hcell : (Wy 132 w Aeh).cell? ⟨w.heap.size, n.toNat, none⟩ = some (.int .i64 x) := by
  rw [Any]; unfold Aeh; rw [List.getElem?_toArray, List.getElem?_map, hx]; rfl
 rw [hx]
 go_enter Try.func127, Try.ntmps127
 go_wp2_with (first | (refine Aj0 rfl 132 _ rfl Aeh (by kernel_rfl) ?_) | (refine Aj1 rfl 132 rfl _ _ Aei (by kernel_rfl) (by kernel_rfl) (by kernel_rfl) ?_) | (refine Aj2 rfl 132 _ _ rfl Aeh rfl rfl (by kernel_rfl) (by kernel_rfl) (by kernel_rfl) ?_))
 go_ret
 refine Ret.mk rfl ?_
 rw [Arv]
 exact (Bq.refl _).alloc _
theorem Arw (n : Int) (w : World) (h0 : ¬ (0 ≤ n ∧ n ≤ 63)) :
  Calls Try.prog 127 #[.int .i64 n] w (Ret w (.int .i64 0)) := by
 by_cases h : n < 0
 ·go_enter Try.func127, Try.ntmps127
  go_wp2_with fail
  go_ret
  exact Ret.mk rfl (Bq.refl _)
 ·have h2 : 63 < n := by omega
  go_enter Try.func127, Try.ntmps127
  go_wp2_with fail
  go_ret
  exact Ret.mk rfl (Bq.refl _)
def Aj3 : List (Bool × List Sh) := [(false, [.int .i64])]
def Aj4 (r : YI) : List RV × List RV := ([rv (false, [.int .i64]) r], [])
def Vc : A4 := A3 Aj3 (fun d => (Uz d.1).val) Aj4
theorem Le : Fn Try.prog 127 .plain Vc := by
 refine ⟨?_, Try.f127, Try.func127, by kernel_rfl, by kernel_rfl⟩
 intro rs res vals w G hv hG hr
 obtain ⟨d, x, rfl, h1, h2⟩ := Alj hv
 obtain ⟨⟨n, _⟩, _⟩ := d
 cases h1
 subst h2
 match vals, hr with
 | [v], hr =>
  have e : v = .int .i64 n := hr.1.1.1
  subst e
  refine (?_ : Calls Try.prog 127 #[.int .i64 n] w (Ret w (.int .i64 (L4 n)))).mono fun e w' h => Arx (Ary n) h
  unfold L4
  by_cases h : 0 ≤ n ∧ n ≤ 63
  ·rw [if_pos h]; exact Aru n w h.1 h.2
  ·rw [if_neg h]; exact Arw n w h

def Aix : A4 := A3 [(false, [.int .i64]), (false, [.int .i64])] (fun d => (Aie d.1 d.2.1).val) fun r => ([rv (false, [.int .i64]) r], [])
theorem Tu : Fn Try.prog 128 .plain Aix := mkF [] trivial Try.func128 (by kernel_rfl) (by kernel_rfl) (by kernel_rfl) 0 fun d => by kernel_rfl
def Om : List (Bool × List Sh) := [(false, [.sl 3 [.int .i64]]), (false, [.sl 5 [.int .u8]])]
def Wz (r : ((List YI) × Unit)) : List RV × List RV := ([rv (false, [.sl 3 [.int .i64]]) r], [])
def C7 : Fns := [(123, .plain, Oj), (125, .plain, Wx), (126, .plain, Ag3), (127, .plain, Vc), (128, .plain, Aix)]
def W0 : A4 := A3 Om (fun d => (Hu d.1 d.2.1).val) Wz
def Pm : Sk := ⟨[(0, .v false [(.sl 3 [.int .i64], .ro)]), (5, .v false [(.sl 3 [.int .i64], (.own 17000000))]), (133, .v false [(.sl 3 [.int .i64], (.own 17000001))]), (134, .v false [(.int .i64, .nil)]), (135, .v false [(.int .i64, .nil)])], [], [17000000, 17000001]⟩
def Pn : List (Ex × Sk) := [((.exit 2), ⟨[(5, .v false [(.sl 3 [.int .i64], (.own 17000000))])], [], [17000000]⟩)]
def R4 : Sk := ⟨[(0, .v false [(.sl 3 [.int .i64], .ro)]), (5, .v false [(.sl 3 [.int .i64], (.own 8000000))]), (6, .v false [(.sl 3 [.int .i64], (.own 8000001))]), (7, .v false [(.int .i64, .nil)]), (8, .v false [(.int .i64, .nil)]), (9, .v false [(.int .i64, .nil)]), (10, .v false [(.int .i64, .nil)]), (11, .v false [(.int .i64, .nil)]), (12, .v false [(.int .i64, .nil)]), (13, .v false [(.int .i64, .nil)]), (14, .v false [(.int .i64, .nil)]), (15, .v false [(.int .i64, .nil)])], [], [8000000, 8000001]⟩
def R5 : List (Ex × Sk) := [((.exit 0), ⟨[(0, .v false [(.sl 3 [.int .i64], .ro)]), (5, .v false [(.sl 3 [.int .i64], (.own 8000000))]), (7, .v false [(.int .i64, .nil)]), (8, .v false [(.int .i64, .nil)]), (9, .v false [(.int .i64, .nil)]), (10, .v false [(.int .i64, .nil)]), (11, .v false [(.int .i64, .nil)]), (12, .v false [(.int .i64, .nil)]), (13, .v false [(.int .i64, .nil)]), (14, .v false [(.int .i64, .nil)])], [], [8000000]⟩)]
def H4 : Bf := fun i st => cond (Nat.beq i 7) (lam R4 8000000 R5 Dh st) <| cond (Nat.beq i 16) (lam Pm 17000000 Pn Cy st) <| .fail
theorem Aej : ∀ d, bod ⟨Au tys, As C7, Am C7, 3, 4⟩ 0 Try.f124.ntmps H4 (Ac Try.f124 0) R4 8000000 R5 d = Dh d := fun d => by kernel_rfl
theorem Aek (cx : Cx) (hp : cx.pin.length ≤ 0) : A8 Try.prog cx Try.f124.ntmps H4 (Ac Try.f124 0) := A6 (Aj Aw An (show Av Try.prog C7 from ⟨Jg, Mj, Ld, Le, Tu, trivial⟩)) hp (Ao (by kernel_rfl : Ai (Ac Try.f124 0) = []) trivial) (by kernel_rfl) Aej
theorem Ab3 : ∀ d, bod ⟨Au tys, As C7, Am C7, 3, 4⟩ 0 Try.f124.ntmps H4 (Ac Try.f124 1) Pm 17000000 Pn d = Cy d := fun d => by kernel_rfl
theorem Ab4 (cx : Cx) (hp : cx.pin.length ≤ 0) : A8 Try.prog cx Try.f124.ntmps H4 (Ac Try.f124 1) := A6 (Aj Aw An (show Av Try.prog C7 from ⟨Jg, Mj, Ld, Le, Tu, trivial⟩)) hp (Ao (by kernel_rfl : Ai (Ac Try.f124 1) = []) trivial) (by kernel_rfl) Ab3
theorem Alk : ∀ d, Bg ⟨Au tys, As C7, Am C7, 3, 4⟩ 0 H4 Try.f124 .plain (mkA Om d) = (Hu d.1 d.2.1).run fun r => some (Wz r) := fun d => by kernel_rfl
theorem Vd : Fn Try.prog 124 .plain W0 := Bm (Aj Aw An (show Av Try.prog C7 from ⟨Jg, Mj, Ld, Le, Tu, trivial⟩)) Try.func124 (by kernel_rfl) (by kernel_rfl) (fun cx b hp hb => Ao (by kernel_rfl : Ai (Try.f124.body.getD .skip) = [Ac Try.f124 0, Ac Try.f124 1]) ⟨Aek cx hp, Ab4 cx hp, trivial⟩ b hb) (R := ((List YI) × Unit)) (T := fun (d : Bj Om) => Hu d.1 d.2.1) Alk
def Kk : List (Bool × List Sh) := [(false, [.sl 3 [.int .i64]]), (false, [.sl 5 [.int .u8]])]
def Po (r : ((List YI) × Unit) × (YBs)) : List RV × List RV := ([rv (false, [.sl 3 [.int .i64]]) r.1, rv (false, [.sl 5 [.int .u8]]) r.2], [])
def Du : Fns := [(124, .plain, W0)]
def Kl : A4 := A3 Kk (fun d => (Fg d.1 d.2.1).val) Po
def Mw : Sk := ⟨[(0, .v false [(.sl 3 [.int .i64], .rd)]), (1, .v false [(.sl 5 [.int .u8], .ro)])], [], []⟩
def Mx : List (Ex × Sk) := [((.exit 0), ⟨[(0, .v false [(.sl 3 [.int .i64], .rd)]), (1, .v false [(.sl 5 [.int .u8], .ro)])], [], []⟩)]
def Km : Bf := fun i st => cond (Nat.beq i 1) (lam Mw 2000000 Mx Cb st) <| .fail
theorem W1 : ∀ d, bod ⟨Au tys, As Du, Am Du, 3, 4⟩ 0 Try.f118.ntmps Km (Ac Try.f118 0) Mw 2000000 Mx d = Cb d := fun d => by kernel_rfl
theorem W2 (cx : Cx) (hp : cx.pin.length ≤ 0) : A8 Try.prog cx Try.f118.ntmps Km (Ac Try.f118 0) := A6 (Aj Aw An (show Av Try.prog Du from ⟨Vd, trivial⟩)) hp (Ao (by kernel_rfl : Ai (Ac Try.f118 0) = []) trivial) (by kernel_rfl) W1
theorem Ael : ∀ d, Bg ⟨Au tys, As Du, Am Du, 3, 4⟩ 0 Km Try.f118 .view (mkA Kk d) = (Fg d.1 d.2.1).run fun r => some (Po r) := fun d => by kernel_rfl
theorem On : Fn Try.prog 118 .view Kl := Bm (Aj Aw An (show Av Try.prog Du from ⟨Vd, trivial⟩)) Try.func118 (by kernel_rfl) (by kernel_rfl) (fun cx b hp hb => Ao (by kernel_rfl : Ai (Try.f118.body.getD .skip) = [Ac Try.f118 0]) ⟨W2 cx hp, trivial⟩ b hb) (R := ((List YI) × Unit) × (YBs)) (T := fun (d : Bj Kk) => Fg d.1 d.2.1) Ael
def Aao : A4 := A3 [(true, h_2), (false, [.sl 5 [.int .u8]])] (fun d => (Qg d.1 d.2.1).val) fun r => ([rv (true, h_2) r], [])
theorem All : Fn Try.prog 111 .plain Aao := mkF [(117, .plain, Tt), (41, .plain, H2), (38, .plain, Gq), (118, .view, Kl)] ⟨Aan, Dl, Ft, On, trivial⟩ Try.func111 (by kernel_rfl) (by kernel_rfl) (by kernel_rfl) 0 fun d => by kernel_rfl
def Ab5 : List (Bool × List Sh) := [(false, [.sl 5 [.int .u8]]), (false, [.int .i64]), (false, [.int .i64])]
def Alm (r : (YBs)) : List RV × List RV := ([rv (false, [.sl 5 [.int .u8]]) r], [])
def Lf : Fns := []
def Tv : A4 := A3 Ab5 (fun d => (Td d.1 d.2.1 d.2.2.1).val) Alm
def Aem : Sk := ⟨[(1, .v false [(.int .i64, .nil)]), (7, .v false [(.sl 5 [.int .u8], (.own 6000000))]), (8, .v false [(.int .i64, .nil)])], [], [6000000]⟩
def Aen : List (Ex × Sk) := [((.exit 0), ⟨[(7, .v false [(.sl 5 [.int .u8], (.own 6000000))])], [], [6000000]⟩)]
def Ab6 : Bf := fun i st => cond (Nat.beq i 5) (lam Aem 6000000 Aen Tc st) <| .fail
theorem Anz : ∀ d, bod ⟨Au tys, As Lf, Am Lf, 3, 4⟩ 0 Try.f39.ntmps Ab6 (Ac Try.f39 0) Aem 6000000 Aen d = Tc d := fun d => by kernel_rfl
theorem An0 (cx : Cx) (hp : cx.pin.length ≤ 0) : A8 Try.prog cx Try.f39.ntmps Ab6 (Ac Try.f39 0) := A6 (Aj Aw An (show Av Try.prog Lf from trivial)) hp (Ao (by kernel_rfl : Ai (Ac Try.f39 0) = []) trivial) (by kernel_rfl) Anz
theorem Atm : ∀ d, Bg ⟨Au tys, As Lf, Am Lf, 3, 4⟩ 0 Ab6 Try.f39 .plain (mkA Ab5 d) = (Td d.1 d.2.1 d.2.2.1).run fun r => some (Alm r) := fun d => by kernel_rfl
theorem L7 : Fn Try.prog 39 .plain Tv := Bm (Aj Aw An (show Av Try.prog Lf from trivial)) Try.func39 (by kernel_rfl) (by kernel_rfl) (fun cx b hp hb => Ao (by kernel_rfl : Ai (Try.f39.body.getD .skip) = [Ac Try.f39 0]) ⟨An0 cx hp, trivial⟩ b hb) (R := (YBs)) (T := fun (d : Bj Ab5) => Td d.1 d.2.1 d.2.2.1) Atm
def Ag4 : List (Bool × List Sh) := [(false, [.int .i64])]
def Aox (r : (YBs)) : List RV × List RV := ([rv (false, [.sl 5 [.int .u8]]) r], [])
def Nh : Fns := [(37, .plain, Fi), (39, .plain, Tv)]
def Aoy : A4 := A3 Ag4 (fun d => (Rl d.1).val) Aox
def Aiy : Sk := ⟨[(0, .v false [(.int .i64, .nil)]), (3, .v false [(.sl 5 [.int .u8], (.own 5000000))])], [], [5000000]⟩
def Aiz : List (Ex × Sk) := [((.exit 0), ⟨[(0, .v false [(.int .i64, .nil)]), (3, .v false [(.sl 5 [.int .u8], (.own 5000000))])], [], [5000000]⟩)]
def Ag5 : Bf := fun i st => cond (Nat.beq i 4) (lam Aiy 5000000 Aiz Gc st) <| .fail
theorem Ap6 : ∀ d, bod ⟨Au tys, As Nh, Am Nh, 3, 4⟩ 0 Try.f119.ntmps Ag5 (Ac Try.f119 0) Aiy 5000000 Aiz d = Gc d := fun d => by kernel_rfl
theorem Ap7 (cx : Cx) (hp : cx.pin.length ≤ 0) : A8 Try.prog cx Try.f119.ntmps Ag5 (Ac Try.f119 0) := A6 (Aj Aw An (show Av Try.prog Nh from ⟨Co, L7, trivial⟩)) hp (Ao (by kernel_rfl : Ai (Ac Try.f119 0) = []) trivial) (by kernel_rfl) Ap6
theorem Au9 : ∀ d, Bg ⟨Au tys, As Nh, Am Nh, 3, 4⟩ 0 Ag5 Try.f119 .plain (mkA Ag4 d) = (Rl d.1).run fun r => some (Aox r) := fun d => by kernel_rfl
theorem Atn : Fn Try.prog 119 .plain Aoy := Bm (Aj Aw An (show Av Try.prog Nh from ⟨Co, L7, trivial⟩)) Try.func119 (by kernel_rfl) (by kernel_rfl) (fun cx b hp hb => Ao (by kernel_rfl : Ai (Try.f119.body.getD .skip) = [Ac Try.f119 0]) ⟨Ap7 cx hp, trivial⟩ b hb) (R := (YBs)) (T := fun (d : Bj Ag4) => Rl d.1) Au9
def Mk : List (Bool × List Sh) := [(false, [.sl 3 [.int .i64]])]
def Ve (r : (YBs)) : List RV × List RV := ([rv (false, [.sl 5 [.int .u8]]) r], [])
def Fc : Fns := [(39, .plain, Tv)]
def Vf : A4 := A3 Mk (fun d => (Gw d.1).val) Ve
def Pp : Sk := ⟨[(3, .v false [(.sl 5 [.int .u8], (.own 4000000))]), (7, .v false [(.sl 3 [.int .i64], .ro)]), (8, .v false [(.int .i64, .nil)]), (9, .v false [(.int .i64, .nil)])], [], [4000000]⟩
def Pq : List (Ex × Sk) := [((.exit 0), ⟨[(3, .v false [(.sl 5 [.int .u8], (.own 4000000))])], [], [4000000]⟩)]
def Ml : Bf := fun i st => cond (Nat.beq i 3) (lam Pp 4000000 Pq Cz st) <| .fail
theorem Ab7 : ∀ d, bod ⟨Au tys, As Fc, Am Fc, 3, 4⟩ 0 Try.f120.ntmps Ml (Ac Try.f120 0) Pp 4000000 Pq d = Cz d := fun d => by kernel_rfl
theorem Ab8 (cx : Cx) (hp : cx.pin.length ≤ 0) : A8 Try.prog cx Try.f120.ntmps Ml (Ac Try.f120 0) := A6 (Aj Aw An (show Av Try.prog Fc from ⟨L7, trivial⟩)) hp (Ao (by kernel_rfl : Ai (Ac Try.f120 0) = []) trivial) (by kernel_rfl) Ab7
theorem Aj5 : ∀ d, Bg ⟨Au tys, As Fc, Am Fc, 3, 4⟩ 0 Ml Try.f120 .plain (mkA Mk d) = (Gw d.1).run fun r => some (Ve r) := fun d => by kernel_rfl
theorem Ag6 : Fn Try.prog 120 .plain Vf := Bm (Aj Aw An (show Av Try.prog Fc from ⟨L7, trivial⟩)) Try.func120 (by kernel_rfl) (by kernel_rfl) (fun cx b hp hb => Ao (by kernel_rfl : Ai (Try.f120.body.getD .skip) = [Ac Try.f120 0]) ⟨Ab8 cx hp, trivial⟩ b hb) (R := (YBs)) (T := fun (d : Bj Mk) => Gw d.1) Aj5
def Aap : A4 := A3 [(true, h_2)] (fun d => (Qi d.1).val) fun r => ([rv (false, [.sl 5 [.int .u8]]) r], [])
theorem Aln : Fn Try.prog 110 .plain Aap := mkF [(117, .plain, Tt), (119, .plain, Aoy), (38, .plain, Gq), (118, .view, Kl), (120, .plain, Vf)] ⟨Aan, Atn, Ft, On, Ag6, trivial⟩ Try.func110 (by kernel_rfl) (by kernel_rfl) (by kernel_rfl) 0 fun d => by kernel_rfl
def Ag7 : A4 := A3 [(false, [.sl 5 [.int .u8]])] (fun d => (Agi d.1).val) fun r => ([rv (false, [.sl 5 [.int .u8]]) r], [])
theorem Ab9 : Fn Try.prog 102 .plain Ag7 := mkF [(112, .plain, Aam), (111, .plain, Aao), (110, .plain, Aap)] ⟨Ale, All, Aln, trivial⟩ Try.func102 (by kernel_rfl) (by kernel_rfl) (by kernel_rfl) 0 fun d => by kernel_rfl
def Oo : List (Bool × List Sh) := [(false, [.sl 5 [.int .u8]])]
def W3 (r : (YBs)) : List RV × List RV := ([rv (false, [.sl 5 [.int .u8]]) r], [])
def F3 : Fns := [(41, .plain, H2), (102, .plain, Ag7)]
def W4 : A4 := A3 Oo (fun d => (Hw d.1).val) W3
def R6 : Sk := ⟨[(3, .v false [(.sl 5 [.int .u8], (.own 7000000))])], [], [7000000]⟩
def R7 : List (Ex × Sk) := [((.exit 0), ⟨[(3, .v false [(.sl 5 [.int .u8], (.own 7000000))])], [], [7000000]⟩)]
def Oq : Bf := fun i st => cond (Nat.beq i 6) (lam R6 7000000 R7 Ch st) <| .fail
theorem Aeo : ∀ d, bod ⟨Au tys, As F3, Am F3, 3, 4⟩ 0 Try.f101.ntmps Oq (Ac Try.f101 0) R6 7000000 R7 d = Ch d := fun d => by kernel_rfl
theorem Aep (cx : Cx) (hp : cx.pin.length ≤ 0) : A8 Try.prog cx Try.f101.ntmps Oq (Ac Try.f101 0) := A6 (Aj Aw An (show Av Try.prog F3 from ⟨Dl, Ab9, trivial⟩)) hp (Ao (by kernel_rfl : Ai (Ac Try.f101 0) = []) trivial) (by kernel_rfl) Aeo
theorem Alo : ∀ d, Bg ⟨Au tys, As F3, Am F3, 3, 4⟩ 0 Oq Try.f101 .plain (mkA Oo d) = (Hw d.1).run fun r => some (W3 r) := fun d => by kernel_rfl
theorem Aj6 : Fn Try.prog 101 .plain W4 := Bm (Aj Aw An (show Av Try.prog F3 from ⟨Dl, Ab9, trivial⟩)) Try.func101 (by kernel_rfl) (by kernel_rfl) (fun cx b hp hb => Ao (by kernel_rfl : Ai (Try.f101.body.getD .skip) = [Ac Try.f101 0]) ⟨Aep cx hp, trivial⟩ b hb) (R := (YBs)) (T := fun (d : Bj Oo) => Hw d.1) Alo
def Tw : List (Bool × List Sh) := [(false, [.sl 5 [.int .u8]]), (false, [.int .u8])]
def Aeq (r : (YBs)) : List RV × List RV := ([rv (false, [.sl 5 [.int .u8]]) r], [])
def Ij : Fns := []
def Aer : A4 := A3 Tw (fun d => (Kf d.1 d.2.1).val) Aeq
def W5 : Sk := ⟨[(1, .v false [(.int .u8, .nil)]), (5, .v false [(.sl 5 [.int .u8], (.own 4000000))]), (9, .v false [(.sl 5 [.int .u8], .ro)]), (10, .v false [(.int .i64, .nil)]), (11, .v false [(.int .i64, .nil)])], [], [4000000]⟩
def W6 : List (Ex × Sk) := [((.exit 0), ⟨[(5, .v false [(.sl 5 [.int .u8], (.own 4000000))])], [], [4000000]⟩)]
def Tx : Bf := fun i st => cond (Nat.beq i 3) (lam W5 4000000 W6 Eo st) <| .fail
theorem Aj7 : ∀ d, bod ⟨Au tys, As Ij, Am Ij, 3, 4⟩ 0 Try.f103.ntmps Tx (Ac Try.f103 0) W5 4000000 W6 d = Eo d := fun d => by kernel_rfl
theorem Aj8 (cx : Cx) (hp : cx.pin.length ≤ 0) : A8 Try.prog cx Try.f103.ntmps Tx (Ac Try.f103 0) := A6 (Aj Aw An (show Av Try.prog Ij from trivial)) hp (Ao (by kernel_rfl : Ai (Ac Try.f103 0) = []) trivial) (by kernel_rfl) Aj7
theorem Ap8 : ∀ d, Bg ⟨Au tys, As Ij, Am Ij, 3, 4⟩ 0 Tx Try.f103 .plain (mkA Tw d) = (Kf d.1 d.2.1).run fun r => some (Aeq r) := fun d => by kernel_rfl
theorem An1 : Fn Try.prog 103 .plain Aer := Bm (Aj Aw An (show Av Try.prog Ij from trivial)) Try.func103 (by kernel_rfl) (by kernel_rfl) (fun cx b hp hb => Ao (by kernel_rfl : Ai (Try.f103.body.getD .skip) = [Ac Try.f103 0]) ⟨Aj8 cx hp, trivial⟩ b hb) (R := (YBs)) (T := fun (d : Bj Tw) => Kf d.1 d.2.1) Ap8
def Ot : A4 := A3 [(false, [.sl 5 [.int .u8]]), (false, [.sl 5 [.int .u8]])] (fun d => (Abi d.1 d.2.1).val) fun r => ([rv (false, [.sl 5 [.int .u8]]) r], [])
theorem L8 : Fn Try.prog 82 .plain Ot := mkF [(101, .plain, W4), (103, .plain, Aer), (38, .plain, Gq), (102, .plain, Ag7)] ⟨Aj6, An1, Ft, Ab9, trivial⟩ Try.func82 (by kernel_rfl) (by kernel_rfl) (by kernel_rfl) 0 fun d => by kernel_rfl
def Aoz : A4 := A3 [(false, [.sl 5 [.int .u8]]), (false, [.sl 5 [.int .u8]])] (fun d => (Agj d.1 d.2.1).val) fun r => ([rv (false, [.sl 5 [.int .u8]]) r], [])
theorem Ato : Fn Try.prog 47 .plain Aoz := mkF [(82, .plain, Ot), (41, .plain, H2)] ⟨L8, Dl, trivial⟩ Try.func47 (by kernel_rfl) (by kernel_rfl) (by kernel_rfl) 0 fun d => by kernel_rfl
def Tz : List (Bool × List Sh) := [(false, [.sl 5 [.int .u8]]), (false, [.sl 5 [.int .u8]]), (false, [.int .i64])]
def Aes (r : (YBs) × (Bool × Unit)) : List RV × List RV := ([rv (false, [.sl 5 [.int .u8]]) r.1, rv (false, [.bool]) r.2], [])
def Ik : Fns := [(37, .plain, Fi), (38, .plain, Gq), (82, .plain, Ot), (41, .plain, H2)]
def Aet : A4 := A3 Tz (fun d => (Kg d.1 d.2.1 d.2.2.1).val) Aes
def W7 : Sk := ⟨[(0, .v false [(.sl 5 [.int .u8], .ro)]), (1, .v false [(.sl 5 [.int .u8], .ro)]), (2, .v false [(.int .i64, .nil)]), (8, .v false [(.sl 5 [.int .u8], (.own 7000000))]), (9, .v false [(.sl 5 [.int .u8], (.own 7000001))]), (10, .v false [(.int .i64, .nil)])], [], [7000000, 7000001]⟩
def W8 : List (Ex × Sk) := [((.exit 0), ⟨[(2, .v false [(.int .i64, .nil)]), (8, .v false [(.sl 5 [.int .u8], (.own 7000000))])], [], [7000000]⟩)]
def T0 : Bf := fun i st => cond (Nat.beq i 6) (lam W7 7000000 W8 Ep st) <| .fail
theorem Aj9 : ∀ d, bod ⟨Au tys, As Ik, Am Ik, 3, 4⟩ 0 Try.f68.ntmps T0 (Ac Try.f68 0) W7 7000000 W8 d = Ep d := fun d => by kernel_rfl
theorem Aka (cx : Cx) (hp : cx.pin.length ≤ 0) : A8 Try.prog cx Try.f68.ntmps T0 (Ac Try.f68 0) := A6 (Aj Aw An (show Av Try.prog Ik from ⟨Co, Ft, L8, Dl, trivial⟩)) hp (Ao (by kernel_rfl : Ai (Ac Try.f68 0) = []) trivial) (by kernel_rfl) Aj9
theorem Ap9 : ∀ d, Bg ⟨Au tys, As Ik, Am Ik, 3, 4⟩ 0 T0 Try.f68 .plain (mkA Tz d) = (Kg d.1 d.2.1 d.2.2.1).run fun r => some (Aes r) := fun d => by kernel_rfl
theorem An2 : Fn Try.prog 68 .plain Aet := Bm (Aj Aw An (show Av Try.prog Ik from ⟨Co, Ft, L8, Dl, trivial⟩)) Try.func68 (by kernel_rfl) (by kernel_rfl) (fun cx b hp hb => Ao (by kernel_rfl : Ai (Try.f68.body.getD .skip) = [Ac Try.f68 0]) ⟨Aka cx hp, trivial⟩ b hb) (R := (YBs) × (Bool × Unit)) (T := fun (d : Bj Tz) => Kg d.1 d.2.1 d.2.2.1) Ap9
def Aeu : A4 := A3 [(false, [.sl 5 [.int .u8]]), (false, [.str])] (fun d => (Tf d.1 d.2.1).val) fun r => ([rv (false, [.sl 5 [.int .u8]]) r], [])
theorem An3 : Fn Try.prog 17 .plain Aeu := mkF [(68, .plain, Aet)] ⟨An2, trivial⟩ Try.func17 (by kernel_rfl) (by kernel_rfl) (by kernel_rfl) 0 fun d => by kernel_rfl
def Aaq : A4 := A3 [(false, [.sl 5 [.int .u8]]), (false, [.sl 5 [.int .u8]]), (false, [.int .i64])] (fun d => (Qk d.1 d.2.1 d.2.2.1).val) fun r => ([rv (false, [.sl 5 [.int .u8]]) r], [])
theorem W9 : Fn Try.prog 100 .plain Aaq := mkF [(37, .plain, Fi), (38, .plain, Gq), (39, .plain, Tv), (82, .plain, Ot)] ⟨Co, Ft, L7, L8, trivial⟩ Try.func100 (by kernel_rfl) (by kernel_rfl) (by kernel_rfl) 0 fun d => by kernel_rfl
def T1 : List (Bool × List Sh) := [(false, [.sl 5 [.int .u8]]), (false, [.sl 5 [.int .u8]]), (false, [.int .i64])]
def Aev (r : (YBs)) : List RV × List RV := ([rv (false, [.sl 5 [.int .u8]]) r], [])
def Il : Fns := [(37, .plain, Fi), (100, .plain, Aaq), (41, .plain, H2)]
def Aew : A4 := A3 T1 (fun d => (Kh d.1 d.2.1 d.2.2.1).val) Aev
def Xa : Sk := ⟨[(0, .v false [(.sl 5 [.int .u8], .ro)]), (1, .v false [(.sl 5 [.int .u8], .ro)]), (2, .v false [(.int .i64, .nil)]), (7, .v false [(.sl 5 [.int .u8], (.own 6000000))]), (8, .v false [(.int .i64, .nil)])], [], [6000000]⟩
def Xb : List (Ex × Sk) := [((.exit 0), ⟨[(2, .v false [(.int .i64, .nil)]), (7, .v false [(.sl 5 [.int .u8], (.own 6000000))])], [], [6000000]⟩)]
def T2 : Bf := fun i st => cond (Nat.beq i 5) (lam Xa 6000000 Xb Er st) <| .fail
theorem Akb : ∀ d, bod ⟨Au tys, As Il, Am Il, 3, 4⟩ 0 Try.f81.ntmps T2 (Ac Try.f81 0) Xa 6000000 Xb d = Er d := fun d => by kernel_rfl
theorem Akc (cx : Cx) (hp : cx.pin.length ≤ 0) : A8 Try.prog cx Try.f81.ntmps T2 (Ac Try.f81 0) := A6 (Aj Aw An (show Av Try.prog Il from ⟨Co, W9, Dl, trivial⟩)) hp (Ao (by kernel_rfl : Ai (Ac Try.f81 0) = []) trivial) (by kernel_rfl) Akb
theorem Aqa : ∀ d, Bg ⟨Au tys, As Il, Am Il, 3, 4⟩ 0 T2 Try.f81 .plain (mkA T1 d) = (Kh d.1 d.2.1 d.2.2.1).run fun r => some (Aev r) := fun d => by kernel_rfl
theorem Aar : Fn Try.prog 81 .plain Aew := Bm (Aj Aw An (show Av Try.prog Il from ⟨Co, W9, Dl, trivial⟩)) Try.func81 (by kernel_rfl) (by kernel_rfl) (fun cx b hp hb => Ao (by kernel_rfl : Ai (Try.f81.body.getD .skip) = [Ac Try.f81 0]) ⟨Akc cx hp, trivial⟩ b hb) (R := (YBs)) (T := fun (d : Bj T1) => Kh d.1 d.2.1 d.2.2.1) Aqa
def Ag8 : List (Bool × List Sh) := [(false, [.sl 5 [.int .u8]]), (false, [.sl 5 [.int .u8]]), (false, [.sl 5 [.int .u8]])]
def Ao0 (r : (YBs)) : List RV × List RV := ([rv (false, [.sl 5 [.int .u8]]) r], [])
def Ni : Fns := [(81, .plain, Aew)]
def Ao1 : A4 := A3 Ag8 (fun d => (Rn d.1 d.2.1 d.2.2.1).val) Ao0
def Ai0 : Sk := ⟨[(2, .v false [(.sl 5 [.int .u8], .ro)]), (7, .v false [(.sl 5 [.int .u8], (.own 6000000))]), (28, .v false [(.sl 5 [.int .u8], (.own 6000001))]), (29, .v false [(.int .i64, .nil)]), (30, .v false [(.int .i64, .nil)])], [], [6000000, 6000001]⟩
def Ai1 : List (Ex × Sk) := [((.exit 0), ⟨[(7, .v false [(.sl 5 [.int .u8], (.own 6000000))])], [], [6000000]⟩)]
def Ag9 : Bf := fun i st => cond (Nat.beq i 5) (lam Ai0 6000000 Ai1 Hx st) <| .fail
theorem Aqb : ∀ d, bod ⟨Au tys, As Ni, Am Ni, 3, 4⟩ 0 Try.f45.ntmps Ag9 (Ac Try.f45 0) Ai0 6000000 Ai1 d = Hx d := fun d => by kernel_rfl
theorem Aqc (cx : Cx) (hp : cx.pin.length ≤ 0) : A8 Try.prog cx Try.f45.ntmps Ag9 (Ac Try.f45 0) := A6 (Aj Aw An (show Av Try.prog Ni from ⟨Aar, trivial⟩)) hp (Ao (by kernel_rfl : Ai (Ac Try.f45 0) = []) trivial) (by kernel_rfl) Aqb
theorem Ava : ∀ d, Bg ⟨Au tys, As Ni, Am Ni, 3, 4⟩ 0 Ag9 Try.f45 .plain (mkA Ag8 d) = (Rn d.1 d.2.1 d.2.2.1).run fun r => some (Ao0 r) := fun d => by kernel_rfl
theorem Atp : Fn Try.prog 45 .plain Ao1 := Bm (Aj Aw An (show Av Try.prog Ni from ⟨Aar, trivial⟩)) Try.func45 (by kernel_rfl) (by kernel_rfl) (fun cx b hp hb => Ao (by kernel_rfl : Ai (Try.f45.body.getD .skip) = [Ac Try.f45 0]) ⟨Aqc cx hp, trivial⟩ b hb) (R := (YBs)) (T := fun (d : Bj Ag8) => Rn d.1 d.2.1 d.2.2.1) Ava
def Aex : A4 := A3 [(true, h_3), (false, [.sl 22 [.sl 5 [.int .u8]]]), (false, [.sl 87 h_4]), (false, [.sl 22 [.sl 5 [.int .u8]]])] (fun d => (B0 d.1 d.2.1 d.2.2.1 d.2.2.2.1).val) fun r => ([rv (false, [.sl 5 [.int .u8]]) r.1, rv (false, [.bool]) r.2], [])
theorem Aas : Fn Try.prog 56 .view Aex := mkF [(87, .plain, Ag2), (38, .plain, Gq), (88, .plain, Aiv), (82, .plain, Ot), (47, .plain, Aoz), (17, .plain, Aeu), (45, .plain, Ao1)] ⟨Ab0, Ft, Ap4, L8, Ato, An3, Atp, trivial⟩ Try.func56 (by kernel_rfl) (by kernel_rfl) (by kernel_rfl) 0 fun d => by kernel_rfl
def Aca : List (Bool × List Sh) := [(false, [.sl 42 h_3]), (false, [.sl 87 h_4]), (false, [.sl 22 [.sl 5 [.int .u8]]])]
def Alp (r : (YBs) × (Bool × Unit)) : List RV × List RV := ([rv (false, [.sl 5 [.int .u8]]) r.1, rv (false, [.bool]) r.2], [])
def Lg : Fns := [(54, .plain, Wp), (55, .plain, Ad7), (56, .view, Aex), (41, .plain, H2)]
def Alq : A4 := A3 Aca (fun d => (N4 d.1 d.2.1 d.2.2.1).val) Alp
def Aey : Sk := ⟨[(1, .v false [(.sl 87 h_4, .ro)]), (2, .v false [(.sl 22 [.sl 5 [.int .u8]], .ro)]), (8, .v false [(.sl 22 [.sl 5 [.int .u8]], (.row 6000000))]), (18, .v false [(.sl 42 h_3, .ro)]), (19, .v false [(.int .i64, .nil)]), (20, .v false [(.int .i64, .nil)])], [], [6000000]⟩
def Aez : List (Ex × Sk) := [(.ret, ⟨[(6, .v false [(.sl 5 [.int .u8], (.own 6000000))]), (7, .v false [(.bool, .nil)])], [], [6000000]⟩), ((.exit 0), ⟨[(8, .v false [(.sl 22 [.sl 5 [.int .u8]], (.row 6000000))])], [], [6000000]⟩)]
def Acb : Bf := fun i st => cond (Nat.beq i 5) (lam Aey 6000000 Aez Fh st) <| .fail
theorem An4 : ∀ d, bod ⟨Au tys, As Lg, Am Lg, 3, 4⟩ 0 Try.f11.ntmps Acb (Ac Try.f11 0) Aey 6000000 Aez d = Fh d := fun d => by kernel_rfl
theorem An5 (cx : Cx) (hp : cx.pin.length ≤ 0) : A8 Try.prog cx Try.f11.ntmps Acb (Ac Try.f11 0) := A6 (Aj Aw An (show Av Try.prog Lg from ⟨Vb, Aaj, Aas, Dl, trivial⟩)) hp (Ao (by kernel_rfl : Ai (Ac Try.f11 0) = []) trivial) (by kernel_rfl) An4
theorem Atq : ∀ d, Bg ⟨Au tys, As Lg, Am Lg, 3, 4⟩ 0 Acb Try.f11 .plain (mkA Aca d) = (N4 d.1 d.2.1 d.2.2.1).run fun r => some (Alp r) := fun d => by kernel_rfl
theorem Arz : Fn Try.prog 11 .plain Alq := Bm (Aj Aw An (show Av Try.prog Lg from ⟨Vb, Aaj, Aas, Dl, trivial⟩)) Try.func11 (by kernel_rfl) (by kernel_rfl) (fun cx b hp hb => Ao (by kernel_rfl : Ai (Try.f11.body.getD .skip) = [Ac Try.f11 0]) ⟨An5 cx hp, trivial⟩ b hb) (R := (YBs) × (Bool × Unit)) (T := fun (d : Bj Aca) => N4 d.1 d.2.1 d.2.2.1) Atq
def Qy : List (Bool × List Sh) := [(false, [.sl 5 [.int .u8]]), (false, [.sl 5 [.int .u8]])]
def Aat (r : (Bool × Unit)) : List RV × List RV := ([rv (false, [.bool]) r], [])
def Hd : Fns := []
def I5 : A4 := A3 Qy (fun d => (I1 d.1 d.2.1).val) Aat
def Vg : Sk := ⟨[(0, .v false [(.sl 5 [.int .u8], .ro)]), (1, .v false [(.sl 5 [.int .u8], .ro)]), (5, .v false [(.int .i64, .nil)])], [], []⟩
def Vh : List (Ex × Sk) := [(.ret, ⟨[(4, .v false [(.bool, .nil)])], [], []⟩), ((.exit 0), ⟨[], [], []⟩)]
def Qz : Bf := fun i st => cond (Nat.beq i 4) (lam Vg 5000000 Vh E8 st) <| .fail
theorem Aha : ∀ d, bod ⟨Au tys, As Hd, Am Hd, 3, 4⟩ 0 Try.f24.ntmps Qz (Ac Try.f24 0) Vg 5000000 Vh d = E8 d := fun d => by kernel_rfl
theorem Ahb (cx : Cx) (hp : cx.pin.length ≤ 0) : A8 Try.prog cx Try.f24.ntmps Qz (Ac Try.f24 0) := A6 (Aj Aw An (show Av Try.prog Hd from trivial)) hp (Ao (by kernel_rfl : Ai (Ac Try.f24 0) = []) trivial) (by kernel_rfl) Aha
theorem An6 : ∀ d, Bg ⟨Au tys, As Hd, Am Hd, 3, 4⟩ 0 Qz Try.f24 .plain (mkA Qy d) = (I1 d.1 d.2.1).run fun r => some (Aat r) := fun d => by kernel_rfl
theorem H5 : Fn Try.prog 24 .plain I5 := Bm (Aj Aw An (show Av Try.prog Hd from trivial)) Try.func24 (by kernel_rfl) (by kernel_rfl) (fun cx b hp hb => Ao (by kernel_rfl : Ai (Try.f24.body.getD .skip) = [Ac Try.f24 0]) ⟨Ahb cx hp, trivial⟩ b hb) (R := (Bool × Unit)) (T := fun (d : Bj Qy) => I1 d.1 d.2.1) An6
def Alr : A4 := A3 [(true, h_3), (true, h_3)] (fun d => (Abj d.1 d.2.1).val) fun r => ([rv (false, [.bool]) r], [])
theorem Ai2 : Fn Try.prog 75 .plain Alr := mkF [(24, .plain, I5)] ⟨H5, trivial⟩ Try.func75 (by kernel_rfl) (by kernel_rfl) (by kernel_rfl) 0 fun d => by kernel_rfl
def Xc : List (Bool × List Sh) := [(false, [.sl 42 h_3]), (false, [.sl 42 h_3])]
def Ai3 (r : (Bool × Unit)) : List RV × List RV := ([rv (false, [.bool]) r], [])
def Jy : Fns := [(75, .plain, Alr)]
def Ai4 : A4 := A3 Xc (fun d => (L5 d.1 d.2.1).val) Ai3
def Aau : Sk := ⟨[(0, .v false [(.sl 42 h_3, .ro)]), (1, .v false [(.sl 42 h_3, .ro)]), (5, .v false [(.int .i64, .nil)])], [], []⟩
def Aav : List (Ex × Sk) := [(.ret, ⟨[(4, .v false [(.bool, .nil)])], [], []⟩), ((.exit 0), ⟨[], [], []⟩)]
def Xd : Bf := fun i st => cond (Nat.beq i 4) (lam Aau 5000000 Aav G7 st) <| .fail
theorem Als : ∀ d, bod ⟨Au tys, As Jy, Am Jy, 3, 4⟩ 0 Try.f25.ntmps Xd (Ac Try.f25 0) Aau 5000000 Aav d = G7 d := fun d => by kernel_rfl
theorem Alt (cx : Cx) (hp : cx.pin.length ≤ 0) : A8 Try.prog cx Try.f25.ntmps Xd (Ac Try.f25 0) := A6 (Aj Aw An (show Av Try.prog Jy from ⟨Ai2, trivial⟩)) hp (Ao (by kernel_rfl : Ai (Ac Try.f25 0) = []) trivial) (by kernel_rfl) Als
theorem Ar0 : ∀ d, Bg ⟨Au tys, As Jy, Am Jy, 3, 4⟩ 0 Xd Try.f25 .plain (mkA Xc d) = (L5 d.1 d.2.1).run fun r => some (Ai3 r) := fun d => by kernel_rfl
theorem Aqd : Fn Try.prog 25 .plain Ai4 := Bm (Aj Aw An (show Av Try.prog Jy from ⟨Ai2, trivial⟩)) Try.func25 (by kernel_rfl) (by kernel_rfl) (fun cx b hp hb => Ao (by kernel_rfl : Ai (Try.f25.body.getD .skip) = [Ac Try.f25 0]) ⟨Alt cx hp, trivial⟩ b hb) (R := (Bool × Unit)) (T := fun (d : Bj Xc) => L5 d.1 d.2.1) Ar0
def Ae0 : A4 := A3 [(true, [.int .i64, .int .i64]), (true, [.int .i64, .int .i64])] (fun d => (Ti d.1 d.2.1).val) fun r => ([rv (false, [.bool]) r], [])
theorem An7 : Fn Try.prog 98 .plain Ae0 := mkF [] trivial Try.func98 (by kernel_rfl) (by kernel_rfl) (by kernel_rfl) 0 fun d => by kernel_rfl
def Ae1 : A4 := A3 [(true, h_4), (true, h_4)] (fun d => (Tj d.1 d.2.1).val) fun r => ([rv (false, [.bool]) r], [])
theorem Aaw : Fn Try.prog 76 .plain Ae1 := mkF [(98, .plain, Ae0), (24, .plain, I5)] ⟨An7, H5, trivial⟩ Try.func76 (by kernel_rfl) (by kernel_rfl) (by kernel_rfl) 0 fun d => by kernel_rfl
def Q0 : List (Bool × List Sh) := [(false, [.sl 87 h_4]), (false, [.sl 87 h_4])]
def Aax (r : (Bool × Unit)) : List RV × List RV := ([rv (false, [.bool]) r], [])
def He : Fns := [(76, .plain, Ae1)]
def Aay : A4 := A3 Q0 (fun d => (I2 d.1 d.2.1).val) Aax
def Vi : Sk := ⟨[(0, .v false [(.sl 87 h_4, .ro)]), (1, .v false [(.sl 87 h_4, .ro)]), (5, .v false [(.int .i64, .nil)])], [], []⟩
def Vj : List (Ex × Sk) := [(.ret, ⟨[(4, .v false [(.bool, .nil)])], [], []⟩), ((.exit 0), ⟨[], [], []⟩)]
def Q1 : Bf := fun i st => cond (Nat.beq i 4) (lam Vi 5000000 Vj E9 st) <| .fail
theorem Ahc : ∀ d, bod ⟨Au tys, As He, Am He, 3, 4⟩ 0 Try.f26.ntmps Q1 (Ac Try.f26 0) Vi 5000000 Vj d = E9 d := fun d => by kernel_rfl
theorem Ahd (cx : Cx) (hp : cx.pin.length ≤ 0) : A8 Try.prog cx Try.f26.ntmps Q1 (Ac Try.f26 0) := A6 (Aj Aw An (show Av Try.prog He from ⟨Aaw, trivial⟩)) hp (Ao (by kernel_rfl : Ai (Ac Try.f26 0) = []) trivial) (by kernel_rfl) Ahc
theorem An8 : ∀ d, Bg ⟨Au tys, As He, Am He, 3, 4⟩ 0 Q1 Try.f26 .plain (mkA Q0 d) = (I2 d.1 d.2.1).run fun r => some (Aax r) := fun d => by kernel_rfl
theorem Alu : Fn Try.prog 26 .plain Aay := Bm (Aj Aw An (show Av Try.prog He from ⟨Aaw, trivial⟩)) Try.func26 (by kernel_rfl) (by kernel_rfl) (fun cx b hp hb => Ao (by kernel_rfl : Ai (Try.f26.body.getD .skip) = [Ac Try.f26 0]) ⟨Ahd cx hp, trivial⟩ b hb) (R := (Bool × Unit)) (T := fun (d : Bj Q0) => I2 d.1 d.2.1) An8
def Ou : List (Bool × List Sh) := [(false, [.sl 22 [.sl 5 [.int .u8]]]), (false, [.sl 22 [.sl 5 [.int .u8]]])]
def Xe (r : (Bool × Unit)) : List RV × List RV := ([rv (false, [.bool]) r], [])
def F4 : Fns := [(24, .plain, I5)]
def Xf : A4 := A3 Ou (fun d => (Hy d.1 d.2.1).val) Xe
def R8 : Sk := ⟨[(0, .v false [(.sl 22 [.sl 5 [.int .u8]], .ro)]), (1, .v false [(.sl 22 [.sl 5 [.int .u8]], .ro)]), (5, .v false [(.int .i64, .nil)])], [], []⟩
def R9 : List (Ex × Sk) := [(.ret, ⟨[(4, .v false [(.bool, .nil)])], [], []⟩), ((.exit 0), ⟨[], [], []⟩)]
def Ov : Bf := fun i st => cond (Nat.beq i 4) (lam R8 5000000 R9 Eh st) <| .fail
theorem Ae2 : ∀ d, bod ⟨Au tys, As F4, Am F4, 3, 4⟩ 0 Try.f27.ntmps Ov (Ac Try.f27 0) R8 5000000 R9 d = Eh d := fun d => by kernel_rfl
theorem Ae3 (cx : Cx) (hp : cx.pin.length ≤ 0) : A8 Try.prog cx Try.f27.ntmps Ov (Ac Try.f27 0) := A6 (Aj Aw An (show Av Try.prog F4 from ⟨H5, trivial⟩)) hp (Ao (by kernel_rfl : Ai (Ac Try.f27 0) = []) trivial) (by kernel_rfl) Ae2
theorem Alv : ∀ d, Bg ⟨Au tys, As F4, Am F4, 3, 4⟩ 0 Ov Try.f27 .plain (mkA Ou d) = (Hy d.1 d.2.1).run fun r => some (Xe r) := fun d => by kernel_rfl
theorem Akd : Fn Try.prog 27 .plain Xf := Bm (Aj Aw An (show Av Try.prog F4 from ⟨H5, trivial⟩)) Try.func27 (by kernel_rfl) (by kernel_rfl) (fun cx b hp hb => Ao (by kernel_rfl : Ai (Try.f27.body.getD .skip) = [Ac Try.f27 0]) ⟨Ae3 cx hp, trivial⟩ b hb) (R := (Bool × Unit)) (T := fun (d : Bj Ou) => Hy d.1 d.2.1) Alv
def Mm : List (Bool × List Sh) := [(false, [.sl 5 [.int .u8]]), (false, [.int .i64])]
def Vk (r : (YI) × (YBs)) : List RV × List RV := ([rv (false, [.int .i64]) r.1], [rv (false, [.sl 5 [.int .u8]]) r.2])
def Fd : Fns := []
def G2 : A4 := A3 Mm (fun d => (Gx d.1 d.2.1).val) Vk
def Pr : Sk := ⟨[(0, .v false [(.sl 5 [.int .u8], (.own 3000000))]), (1, .v false [(.int .i64, .nil)]), (5, .v false [(.int .i64, .nil)])], [], [3000000]⟩
def Ps : List (Ex × Sk) := [((.exit 0), ⟨[(0, .v false [(.sl 5 [.int .u8], (.own 3000000))]), (1, .v false [(.int .i64, .nil)])], [], [3000000]⟩)]
def Mn : Bf := fun i st => cond (Nat.beq i 2) (lam Pr 3000000 Ps Dr st) <| .fail
theorem Acc : ∀ d, bod ⟨Au tys, As Fd, Am Fd, 3, 4⟩ 1 Try.f31.ntmps Mn (Ac Try.f31 0) Pr 3000000 Ps d = Dr d := fun d => by kernel_rfl
theorem Acd (cx : Cx) (hp : cx.pin.length ≤ 1) : A8 Try.prog cx Try.f31.ntmps Mn (Ac Try.f31 0) := A6 (Aj Aw An (show Av Try.prog Fd from trivial)) hp (Ao (by kernel_rfl : Ai (Ac Try.f31 0) = []) trivial) (by kernel_rfl) Acc
theorem Ake : ∀ d, Bg ⟨Au tys, As Fd, Am Fd, 3, 4⟩ 1 Mn Try.f31 (.lend [1]) (mkA Mm d) = (Gx d.1 d.2.1).run fun r => some (Vk r) := fun d => by kernel_rfl
theorem Dj : Fn Try.prog 31 (.lend [1]) G2 := Bm (Aj Aw An (show Av Try.prog Fd from trivial)) Try.func31 (by kernel_rfl) (by kernel_rfl) (fun cx b hp hb => Ao (by kernel_rfl : Ai (Try.f31.body.getD .skip) = [Ac Try.f31 0]) ⟨Acd cx hp, trivial⟩ b hb) (R := (YI) × (YBs)) (T := fun (d : Bj Mm) => Gx d.1 d.2.1) Ake
def Q2 : List (Bool × List Sh) := [(false, [.sl 42 h_3]), (false, [.int .i64])]
def Aaz (r : (YI) × ((List YOp) × Unit)) : List RV × List RV := ([rv (false, [.int .i64]) r.1], [rv (false, [.sl 42 h_3]) r.2])
def Hf : Fns := [(31, (.lend [1]), G2)]
def Aa0 : A4 := A3 Q2 (fun d => (I3 d.1 d.2.1).val) Aaz
def Vl : Sk := ⟨[(0, .v false [(.sl 42 h_3, (.own 3000000))]), (1, .v false [(.int .i64, .nil)]), (5, .v false [(.int .i64, .nil)])], [], [3000000]⟩
def Vm : List (Ex × Sk) := [((.exit 0), ⟨[(0, .v false [(.sl 42 h_3, (.own 3000000))]), (1, .v false [(.int .i64, .nil)])], [], [3000000]⟩)]
def Q3 : Bf := fun i st => cond (Nat.beq i 2) (lam Vl 3000000 Vm Fb st) <| .fail
theorem Ahe : ∀ d, bod ⟨Au tys, As Hf, Am Hf, 3, 4⟩ 1 Try.f28.ntmps Q3 (Ac Try.f28 0) Vl 3000000 Vm d = Fb d := fun d => by kernel_rfl
theorem Ahf (cx : Cx) (hp : cx.pin.length ≤ 1) : A8 Try.prog cx Try.f28.ntmps Q3 (Ac Try.f28 0) := A6 (Aj Aw An (show Av Try.prog Hf from ⟨Dj, trivial⟩)) hp (Ao (by kernel_rfl : Ai (Ac Try.f28 0) = []) trivial) (by kernel_rfl) Ahe
theorem An9 : ∀ d, Bg ⟨Au tys, As Hf, Am Hf, 3, 4⟩ 1 Q3 Try.f28 (.lend [1]) (mkA Q2 d) = (I3 d.1 d.2.1).run fun r => some (Aaz r) := fun d => by kernel_rfl
theorem Alw : Fn Try.prog 28 (.lend [1]) Aa0 := Bm (Aj Aw An (show Av Try.prog Hf from ⟨Dj, trivial⟩)) Try.func28 (by kernel_rfl) (by kernel_rfl) (fun cx b hp hb => Ao (by kernel_rfl : Ai (Try.f28.body.getD .skip) = [Ac Try.f28 0]) ⟨Ahf cx hp, trivial⟩ b hb) (R := (YI) × ((List YOp) × Unit)) (T := fun (d : Bj Q2) => I3 d.1 d.2.1) An9
def Mo : List (Bool × List Sh) := [(false, [.sl 87 h_4]), (false, [.int .i64])]
def Vn (r : (YI) × ((List Az) × Unit)) : List RV × List RV := ([rv (false, [.int .i64]) r.1], [rv (false, [.sl 87 h_4]) r.2])
def Fe : Fns := [(31, (.lend [1]), G2)]
def Vo : A4 := A3 Mo (fun d => (Gy d.1 d.2.1).val) Vn
def Pt : Sk := ⟨[(0, .v false [(.sl 87 h_4, (.own 3000000))]), (1, .v false [(.int .i64, .nil)]), (5, .v false [(.int .i64, .nil)])], [], [3000000]⟩
def Pu : List (Ex × Sk) := [((.exit 0), ⟨[(0, .v false [(.sl 87 h_4, (.own 3000000))]), (1, .v false [(.int .i64, .nil)])], [], [3000000]⟩)]
def Mp : Bf := fun i st => cond (Nat.beq i 2) (lam Pt 3000000 Pu Ds st) <| .fail
theorem Ace : ∀ d, bod ⟨Au tys, As Fe, Am Fe, 3, 4⟩ 1 Try.f29.ntmps Mp (Ac Try.f29 0) Pt 3000000 Pu d = Ds d := fun d => by kernel_rfl
theorem Acf (cx : Cx) (hp : cx.pin.length ≤ 1) : A8 Try.prog cx Try.f29.ntmps Mp (Ac Try.f29 0) := A6 (Aj Aw An (show Av Try.prog Fe from ⟨Dj, trivial⟩)) hp (Ao (by kernel_rfl : Ai (Ac Try.f29 0) = []) trivial) (by kernel_rfl) Ace
theorem Akf : ∀ d, Bg ⟨Au tys, As Fe, Am Fe, 3, 4⟩ 1 Mp Try.f29 (.lend [1]) (mkA Mo d) = (Gy d.1 d.2.1).run fun r => some (Vn r) := fun d => by kernel_rfl
theorem Ahg : Fn Try.prog 29 (.lend [1]) Vo := Bm (Aj Aw An (show Av Try.prog Fe from ⟨Dj, trivial⟩)) Try.func29 (by kernel_rfl) (by kernel_rfl) (fun cx b hp hb => Ao (by kernel_rfl : Ai (Try.f29.body.getD .skip) = [Ac Try.f29 0]) ⟨Acf cx hp, trivial⟩ b hb) (R := (YI) × ((List Az) × Unit)) (T := fun (d : Bj Mo) => Gy d.1 d.2.1) Akf
def Lh : List (Bool × List Sh) := [(false, [.sl 22 [.sl 5 [.int .u8]]]), (false, [.int .i64])]
def Sa (r : (YI) × ((List YBs) × Unit)) : List RV × List RV := ([rv (false, [.int .i64]) r.1], [rv (false, [.sl 22 [.sl 5 [.int .u8]]]) r.2])
def Ei : Fns := [(31, (.lend [1]), G2)]
def Sb : A4 := A3 Lh (fun d => (Fx d.1 d.2.1).val) Sa
def Ow : Sk := ⟨[(0, .v false [(.sl 22 [.sl 5 [.int .u8]], (.own 3000000))]), (1, .v false [(.int .i64, .nil)]), (5, .v false [(.int .i64, .nil)])], [], [3000000]⟩
def Ox : List (Ex × Sk) := [((.exit 0), ⟨[(0, .v false [(.sl 22 [.sl 5 [.int .u8]], (.own 3000000))]), (1, .v false [(.int .i64, .nil)])], [], [3000000]⟩)]
def Li : Bf := fun i st => cond (Nat.beq i 2) (lam Ow 3000000 Ox Di st) <| .fail
theorem Zu : ∀ d, bod ⟨Au tys, As Ei, Am Ei, 3, 4⟩ 1 Try.f30.ntmps Li (Ac Try.f30 0) Ow 3000000 Ox d = Di d := fun d => by kernel_rfl
theorem Zv (cx : Cx) (hp : cx.pin.length ≤ 1) : A8 Try.prog cx Try.f30.ntmps Li (Ac Try.f30 0) := A6 (Aj Aw An (show Av Try.prog Ei from ⟨Dj, trivial⟩)) hp (Ao (by kernel_rfl : Ai (Ac Try.f30 0) = []) trivial) (by kernel_rfl) Zu
theorem Ahh : ∀ d, Bg ⟨Au tys, As Ei, Am Ei, 3, 4⟩ 1 Li Try.f30 (.lend [1]) (mkA Lh d) = (Fx d.1 d.2.1).run fun r => some (Sa r) := fun d => by kernel_rfl
theorem Ae4 : Fn Try.prog 30 (.lend [1]) Sb := Bm (Aj Aw An (show Av Try.prog Ei from ⟨Dj, trivial⟩)) Try.func30 (by kernel_rfl) (by kernel_rfl) (fun cx b hp hb => Ao (by kernel_rfl : Ai (Try.f30.body.getD .skip) = [Ac Try.f30 0]) ⟨Zv cx hp, trivial⟩ b hb) (R := (YI) × ((List YBs) × Unit)) (T := fun (d : Bj Lh) => Fx d.1 d.2.1) Ahh
def Mq : List (Bool × List Sh) := [(false, [.sl 5 [.int .u8]]), (false, [.int .i64])]
def Vp (r : (YI)) : List RV × List RV := ([rv (false, [.int .i64]) r], [])
def Ff : Fns := []
def Vq : A4 := A3 Mq (fun d => (Gz d.1 d.2.1).val) Vp
def Pv : Sk := ⟨[(0, .v false [(.sl 5 [.int .u8], .ro)]), (1, .v false [(.int .i64, .nil)]), (5, .v false [(.int .i64, .nil)])], [], []⟩
def Pw : List (Ex × Sk) := [(.ret, ⟨[(4, .v false [(.int .i64, .nil)])], [], []⟩), ((.exit 0), ⟨[(1, .v false [(.int .i64, .nil)])], [], []⟩)]
def Mr : Bf := fun i st => cond (Nat.beq i 2) (lam Pv 3000000 Pw Dt st) <| .fail
theorem Acg : ∀ d, bod ⟨Au tys, As Ff, Am Ff, 3, 4⟩ 0 Try.f32.ntmps Mr (Ac Try.f32 0) Pv 3000000 Pw d = Dt d := fun d => by kernel_rfl
theorem Ach (cx : Cx) (hp : cx.pin.length ≤ 0) : A8 Try.prog cx Try.f32.ntmps Mr (Ac Try.f32 0) := A6 (Aj Aw An (show Av Try.prog Ff from trivial)) hp (Ao (by kernel_rfl : Ai (Ac Try.f32 0) = []) trivial) (by kernel_rfl) Acg
theorem Akg : ∀ d, Bg ⟨Au tys, As Ff, Am Ff, 3, 4⟩ 0 Mr Try.f32 .plain (mkA Mq d) = (Gz d.1 d.2.1).run fun r => some (Vp r) := fun d => by kernel_rfl
theorem Ahi : Fn Try.prog 32 .plain Vq := Bm (Aj Aw An (show Av Try.prog Ff from trivial)) Try.func32 (by kernel_rfl) (by kernel_rfl) (fun cx b hp hb => Ao (by kernel_rfl : Ai (Try.f32.body.getD .skip) = [Ac Try.f32 0]) ⟨Ach cx hp, trivial⟩ b hb) (R := (YI)) (T := fun (d : Bj Mq) => Gz d.1 d.2.1) Akg
def Dv : List (Bool × List Sh) := [(false, [.sl 92 h_3]), (false, [.sl 96 h_4]), (false, [.sl 22 [.sl 5 [.int .u8]]])]
def Kn (r : (Bool × Unit)) : List RV × List RV := ([rv (false, [.bool]) r], [])
def Ko : Fns := [(18, .plain, Aih), (19, .plain, Z3), (20, .plain, V5), (21, .plain, Aik), (22, .plain, Z9), (23, .plain, V9), (16, .plain, Ak9), (11, .plain, Alq), (24, .plain, I5), (25, .plain, Ai4), (26, .plain, Aay), (27, .plain, Xf), (28, (.lend [1]), Aa0), (29, (.lend [1]), Vo), (30, (.lend [1]), Sb), (31, (.lend [1]), G2), (32, .plain, Vq)]
def Ae5 : A4 := A3 Dv (fun d => (C0 d.1 d.2.1 d.2.2.1).val) Kn
def Ae6 : Bf := fun _ _ => .fail
theorem Ae7 : ∀ d, Bg ⟨Au tys, As Ko, Am Ko, 3, 4⟩ 0 Ae6 Try.f5 .plain (mkA Dv d) = (C0 d.1 d.2.1 d.2.2.1).run fun r => some (Kn r) := fun d => by kernel_rfl
theorem Aci : Fn Try.prog 5 .plain Ae5 := Bm (Aj Aw An (show Av Try.prog Ko from ⟨Apt, Akr, Ajs, Apu, Akw, Ajt, Ars, Arz, H5, Aqd, Alu, Akd, Alw, Ahg, Ae4, Dj, Ahi, trivial⟩)) Try.func5 (by kernel_rfl) (by kernel_rfl) (fun cx b hp hb => Ao (by kernel_rfl : Ai (Try.f5.body.getD .skip) = []) trivial b hb) (R := (Bool × Unit)) (T := fun (d : Bj Dv) => C0 d.1 d.2.1 d.2.2.1) Ae7
end
end Go.Proofs.Ytggdikabbngbaaa

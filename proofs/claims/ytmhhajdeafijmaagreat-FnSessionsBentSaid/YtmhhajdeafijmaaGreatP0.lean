/-
  That the functions of the seat answer what the terms of text W say; nothing is assumed.
-/
import Derived.Test.YtmhhajdeafijmaaGreatW
import Derived.Test.YtmhhajdeafijmaaGreatProg
import Derived.KernelRfl
namespace Go.Proofs.YtmhhajdeafijmaaGreat
open Go.RowKit
set_option linter.unusedVariables false
set_option maxRecDepth 100000
set_option maxHeartbeats 4000000
noncomputable section
abbrev h_0:List Sh:=[.int .i64,.int .i64,.bool,.int .u8]
abbrev h_1:List Sh:=[.bool,.int .i64,.int .i64,.int .i64]
abbrev h_2:List Sh:=[.sl 5 [.int .u8],.int .i64,.int .i64]
abbrev h_3:List Sh:=[.int .i64,.int .i64,.int .i64,.int .i64]
abbrev h_4:List Sh:=[.sl 3 [.int .i64],.sl 5 [.int .u8],.int .i64]
abbrev h_5:List Sh:=[.int .i64,.int .i64,.sl 5 [.int .u8],.int .i64]
abbrev h_6:List Sh:=[.int .i64,.sl 5 [.int .u8],.int .i64,.int .i64,.sl 3 [.int .i64]]
abbrev h_7:List Sh:=[.int .i64,.int .i64,.sl 86 h_5]
abbrev h_8:List Sh:=[.int .i64,.int .i64,.sl 342 h_5]
abbrev h_9:List Sh:=[.int .i64,.int .i64,.int .i64,.sl 5 [.int .u8],.sl 5 [.int .u8],.int .i64,.int .i64,.sl 5 [.int .u8],.sl 5 [.int .u8],.int .i64,.int .i64,.int .i64]
abbrev A9t:List Sh:=[.int .i64,.int .i64,.sl 5 [.int .u8],.sl 5 [.int .u8],.int .i64,.sl 5 [.int .u8],.sl 5 [.int .u8],.int .i64,.int .i64,.sl 5 [.int .u8],.sl 5 [.int .u8]]
abbrev A6u:List Sh:=[.int .i64,.int .i64,.int .i64,.int .i64,.sl 5 [.int .u8],.sl 5 [.int .u8],.int .i64,.sl 5 [.int .u8],.sl 5 [.int .u8],.int .i64,.int .i64,.sl 5 [.int .u8],.sl 5 [.int .u8]]
abbrev A9u:List Sh:=[.int .i64,.sl 5 [.int .u8],.int .i64,.sl 5 [.int .u8],.int .i64,.int .i64,.sl 3 [.int .i64],.int .i64,.sl 5 [.int .u8],.int .i64,.int .i64,.sl 3 [.int .i64],.bool,.int .i64,.sl 5 [.int .u8]]
abbrev A6v:List Sh:=[.int .i64,.sl 5 [.int .u8],.sl 5 [.int .u8],.int .i64,.sl 5 [.int .u8],.int .i64,.sl 5 [.int .u8],.int .i64,.int .i64,.sl 3 [.int .i64],.int .i64,.sl 5 [.int .u8],.int .i64,.int .i64,.sl 3 [.int .i64],.bool,.int .i64,.sl 5 [.int .u8],.int .i64,.int .i64,.sl 86 h_5,.int .i64,.int .i64,.bool]
abbrev Ba8:List Sh:=[.int .i64,.sl 5 [.int .u8],.sl 5 [.int .u8],.int .i64,.sl 5 [.int .u8],.int .i64,.sl 5 [.int .u8],.int .i64,.int .i64,.sl 3 [.int .i64],.int .i64,.sl 5 [.int .u8],.int .i64,.int .i64,.sl 3 [.int .i64],.bool,.int .i64,.sl 5 [.int .u8],.int .i64,.int .i64,.sl 342 h_5,.int .i64,.int .i64,.bool]
abbrev Bbf:List Sh:=[.sl 23 [.sl 5 [.int .u8]],.sl 5 [.int .u8],.sl 5 [.int .u8],.int .i64,.int .i64,.sl 74 A6v,.sl 230 h_3]
abbrev Bbg:List Sh:=[.sl 23 [.sl 5 [.int .u8]],.sl 5 [.int .u8],.sl 5 [.int .u8],.int .i64,.int .i64,.sl 301 Ba8,.sl 248 h_3]
abbrev Bbh:List Sh:=[.int .i64,.sl 5 [.int .u8],.int .i64,.int .i64,.int .i64,.sl 5 [.int .u8],.int .i64,.int .i64,.sl 5 [.int .u8],.sl 5 [.int .u8],.int .i64,.sl 5 [.int .u8],.sl 5 [.int .u8],.int .i64,.int .i64,.sl 5 [.int .u8],.sl 5 [.int .u8],.int .i64,.sl 5 [.int .u8],.int .i64,.sl 5 [.int .u8],.int .i64,.int .i64,.sl 3 [.int .i64],.int .i64,.sl 5 [.int .u8],.int .i64,.int .i64,.sl 3 [.int .i64],.bool,.int .i64,.sl 5 [.int .u8],.bool,.int .i64,.int .i64,.int .i64,.bool,.int .i64,.int .i64,.int .i64,.int .i64]
abbrev g_0:Bool×List Sh:=(false,[.sl 5 [.int .u8]])
abbrev g_1:Bool×List Sh:=(false,[.bool])
abbrev g_2:Bool×List Sh:=(true,h_2)
abbrev g_3:Bool×List Sh:=(false,[.int .i64])
abbrev g_4:Bool×List Sh:=(true,A9t)
abbrev g_5:Bool×List Sh:=(false,[.sl 3 [.int .i64]])
abbrev g_6:Bool×List Sh:=(false,[.str])
abbrev g_7:Bool×List Sh:=(true,[.int .i64,.int .i64])
abbrev g_8:Bool×List Sh:=(true,[.int .i64,.sl 3 [.int .i64]])
abbrev g_9:Bool×List Sh:=(true,h_6)
abbrev Do:Bool×List Sh:=(true,A9u)
abbrev Fc:Bool×List Sh:=(true,h_7)
abbrev Ft:Bool×List Sh:=(true,A6v)
abbrev A6w:Bool×List Sh:=(true,h_5)
abbrev A9v:Bool×List Sh:=(false,[.sl 23 [.sl 5 [.int .u8]]])
abbrev Avy:Bool×List Sh:=(true,h_4)
abbrev Ba9:Bool×List Sh:=(false,[.int .u8])
abbrev Aih:Bool×List Sh:=(true,h_9)
abbrev Avz:Bool×List Sh:=(false,[.sl 90 A6u])
abbrev Anq:Bool×List Sh:=(false,[.sl 113 h_9])
def tys:List (Nat×Ty):=[(3,⟨false,[.int .i64],[],false,[]⟩),
 (4,⟨false,[.bool],[],false,[]⟩),
 (5,⟨false,[.int .u8],[],false,[]⟩),
 (9,⟨false,[.str],[],false,[]⟩),
 (22,⟨false,[.sl 23 [.sl 5 [.int .u8]]],[],false,[]⟩),
 (23,⟨false,[.sl 5 [.int .u8]],[],false,[]⟩),
 (45,⟨false,[.sl 90 A6u],[],false,[]⟩),
 (46,⟨false,[.sl 113 h_9],[],false,[]⟩),
 (50,⟨true,[.int .i64,.int .i64],[(0,1),(1,1)],true,[]⟩),
 (63,⟨false,[.sl 3 [.int .i64]],[],false,[]⟩),
 (65,⟨true,[.int .i64,.sl 3 [.int .i64]],[(0,1),(1,1)],false,[]⟩),
 (67,⟨true,h_6,[(0,1),(1,1),(2,1),(3,2)],false,[]⟩),
 (69,⟨true,A9u,[(0,1),(1,1),(2,5),(7,5),(12,1),(13,1),(14,1)],false,[]⟩),
 (70,⟨false,[.sl 86 h_5],[],false,[]⟩),
 (72,⟨true,h_7,[(0,2),(2,1)],false,[50,70]⟩),
 (74,⟨true,A6v,[(0,1),(1,1),(2,1),(3,15),(18,3),(21,1),(22,1),(23,1)],false,[]⟩),
 (76,⟨true,A9t,[(0,1),(1,1),(2,1),(3,1),(4,1),(5,1),(6,1),(7,1),(8,1),(9,1),(10,1)],false,[]⟩),
 (86,⟨true,h_5,[(0,2),(2,1),(3,1)],false,[]⟩),
 (90,⟨true,A6u,[(0,2),(2,11)],false,[]⟩),
 (113,⟨true,h_9,[(0,1),(1,1),(2,1),(3,1),(4,1),(5,1),(6,1),(7,1),(8,1),(9,2),(11,1)],false,[]⟩),
 (260,⟨true,h_2,[(0,1),(1,1),(2,1)],false,[]⟩),
 (308,⟨false,[.int .u64],[],false,[]⟩),
 (350,⟨true,h_4,[(0,1),(1,1),(2,1)],false,[]⟩)]
theorem Kd:A17 Tryz.prog tys=true:=by kernel_rfl
theorem Ny:Tryz.prog.follows .mixedOrders=true:=by kernel_rfl
abbrev D3 (C:Fns):Cfg:=⟨Ao2 tys,Sd C,P1 C,3,4⟩
theorem mkF {f:FuncId} {fn:Func} {kd:Kind} {ps:List (Bool×List Sh)} {R:Type} {T:Ob ps→Tree R} {rvs:R→List RV×List RV} (C:Fns) (hc:K4 Tryz.prog C) (hf:Tryz.prog.funcs[f]? =some fn) (np:Nat) (hn:(fn.name== "runtime.NumGoroutine")=false:=by kernel_rfl) (hb:fn.body.isSome=true:=by kernel_rfl) (hl:Bq (fn.body.getD .skip)=[]:=by kernel_rfl)
  (he: ∀d,Hw (D3 C) np (fun _ _=>.fail) fn kd (mkA ps d)=(T d).run fun r=>some (rvs r):=by intro d;kernel_rfl):Fn Tryz.prog f kd (Ar ps (fun d=>(T d).val) rvs):=
 P2 (Gn Ny Kd hc) hf hn hb (fun cx b hp hbb=>by rw[hl]at hbb;cases hbb) he
abbrev lpq (r:Nat) (K:Sk) (z:Nat) (X:List (Ex×Sk)) (B:K.den→Option (K.den⊕Oc X)):Fk:=fun i st=>cond (Nat.beq i r) (lam K z X B st) .fail
theorem Db {f:FuncId} {fn:Func} {kd:Kind} {ps:List (Bool×List Sh)} {R:Type} {T:Ob ps→Tree R} {rvs:R→List RV×List RV} (C:Fns) (hc:K4 Tryz.prog C) (K:Sk) (z:Nat) (X:List (Ex×Sk)) (r:Nat) (B:K.den→Option (K.den⊕Oc X)) (hf:Tryz.prog.funcs[f]? =some fn) (np:Nat) (hn:(fn.name== "runtime.NumGoroutine")=false:=by kernel_rfl) (hb:fn.body.isSome=true:=by kernel_rfl) (h1:Bq (fn.body.getD .skip)=[A8 fn 0]:=by kernel_rfl) (h2:Bq (A8 fn 0)=[]:=by kernel_rfl)
  (hq:lpq r K z X B (Ke (A8 fn 0))=lam K z X B:=by kernel_rfl) (hl: ∀d,bod (D3 C) np fn.ntmps (lpq r K z X B) (A8 fn 0) K z X d=B d:=by intro d;kernel_rfl)
  (he: ∀d,Hw (D3 C) np (lpq r K z X B) fn kd (mkA ps d)=(T d).run fun r=>some (rvs r):=by intro d;kernel_rfl):Fn Tryz.prog f kd (Ar ps (fun d=>(T d).val) rvs):=
 P2 (Gn Ny Kd hc) hf hn hb (fun cx b hp hbb=>Dl h1 ⟨Fh (Gn Ny Kd hc) hp (Dl h2 trivial) hq hl,trivial⟩ b hbb) he
def A02:As:=Ar [g_0] (fun d=>(A0y d.1).val) fun r=>([rv g_1 r],[])
theorem A6x:Fn Tryz.prog 26 .plain A02:=mkF [] trivial Tryz.func26 0
def Atj:As:=Ar [g_0] (fun d=>(Ahp d.1).val) fun r=>([rv g_2 r],[])
theorem A18:Fn Tryz.prog 124 .ret Atj:=Db [] trivial ⟨[(0,.v false [(.sl 5 [.int .u8],.ro)]),(3,.v false [(.int .i64,.nil)]),(4,.v false [(.int .i64,.nil)])],[],[]⟩ 4000000 [((.exit 0),⟨[(0,.v false [(.sl 5 [.int .u8],.ro)]),(3,.v false [(.int .i64,.nil)])],[],[]⟩)] 3 R0 Tryz.func124 0
def P3:As:=Ar [g_2] (fun d=>(Acx d.1).val) fun r=>([rv g_3 r.1],[rv g_2 r.2])
theorem Se:Fn Tryz.prog 269 (.box [3] true true) P3:=mkF [] trivial Tryz.func269 1
def Ed:As:=Ar [g_2,g_3] (fun d=>(Zm d.1 d.2.1).val) fun r=>([rv g_0 r.1],[rv g_2 r.2])
theorem D6:Fn Tryz.prog 128 (.box [3] true true) Ed:=Db [(269,(.box [3] true true),P3)] ⟨Se,trivial⟩ ⟨[(0,.box 0 0),(1,.v false [(.int .i64,.nil)]),(5,.v false [(.sl 5 [.int .u8],(.own 4000000))]),(6,.v false [(.int .i64,.nil)])],[(0,[(.sl 5 [.int .u8],(.pin 0)),(.int .i64,.nil),(.int .i64,.nil)])],[4000000]⟩ 4000000 [((.exit 0),⟨[(0,.box 0 0),(5,.v false [(.sl 5 [.int .u8],(.own 4000000))])],[(0,[(.sl 5 [.int .u8],(.pin 0)),(.int .i64,.nil),(.int .i64,.nil)])],[4000000]⟩)] 3 Kb Tryz.func128 1
def Cu:As:=Ar [g_2,g_3] (fun d=>(Zn d.1 d.2.1).val) fun r=>([rv g_3 r.1],[rv g_2 r.2])
theorem Co:Fn Tryz.prog 175 (.box [3] true true) Cu:=mkF [(269,(.box [3] true true),P3)] ⟨Se,trivial⟩ Tryz.func175 1
def Agx:As:=Ar [g_2] (fun d=>(To d.1).val) fun r=>([rv g_4 r.1],[rv g_2 r.2])
theorem Arw:Fn Tryz.prog 173 (.box [3] true true) Agx:=mkF [(128,(.box [3] true true),Ed),(175,(.box [3] true true),Cu)] ⟨D6,Co,trivial⟩ Tryz.func173 1
def Ca:As:=Ar [g_3,g_3,g_3] (fun d=>(Amv d.1 d.2.1 d.2.2.1).val) fun r=>([rv g_1 r],[])
theorem By:Fn Tryz.prog 66 .plain Ca:=mkF [] trivial Tryz.func66 0
def Mo:As:=Ar [g_3] (fun d=>(Acy d.1).val) fun r=>([rv g_1 r],[])
theorem Na:Fn Tryz.prog 86 .plain Mo:=mkF [(66,.plain,Ca)] ⟨By,trivial⟩ Tryz.func86 0
def Uw:As:=Ar [g_3,g_3] (fun d=>(Acz d.1 d.2.1).val) fun r=>([rv g_1 r],[])
theorem Aap:Fn Tryz.prog 307 .plain Uw:=mkF [] trivial Tryz.func307 0
def Nb:As:=Ar [g_4] (fun d=>(Zo d.1).val) fun r=>([rv g_1 r],[])
theorem P4:Fn Tryz.prog 185 .plain Nb:=mkF [(86,.plain,Mo),(66,.plain,Ca),(307,.plain,Uw)] ⟨Na,By,Aap,trivial⟩ Tryz.func185 0
def Xw:As:=Ar [g_0] (fun d=>(Ahr d.1).val) fun r=>([rv g_1 r],[])
theorem Ae8:Fn Tryz.prog 180 .plain Xw:=mkF [(66,.plain,Ca)] ⟨By,trivial⟩ Tryz.func180 0
def Od:As:=Ar [g_0,g_3,g_3] (fun d=>(Amw d.1 d.2.1 d.2.2.1).val) fun r=>([rv g_0 r],[])
theorem Oq:Fn Tryz.prog 217 .plain Od:=Db [] trivial ⟨[(1,.v false [(.int .i64,.nil)]),(7,.v false [(.sl 5 [.int .u8],(.own 6000000))]),(8,.v false [(.int .i64,.nil)])],[],[6000000]⟩ 6000000 [((.exit 0),⟨[(7,.v false [(.sl 5 [.int .u8],(.own 6000000))])],[],[6000000]⟩)] 5 Pb Tryz.func217 0
def A03:As:=Ar [g_3] (fun d=>(Arg d.1).val) fun r=>([rv g_0 r],[])
theorem A6y:Fn Tryz.prog 394 .plain A03:=Db [(217,.plain,Od)] ⟨Oq,trivial⟩ ⟨[(0,.v false [(.int .i64,.nil)]),(3,.v false [(.sl 5 [.int .u8],(.own 5000000))])],[],[5000000]⟩ 5000000 [((.exit 0),⟨[(0,.v false [(.int .i64,.nil)]),(3,.v false [(.sl 5 [.int .u8],(.own 5000000))])],[],[5000000]⟩)] 4 Ahs Tryz.func394 0
def Atk:As:=Ar [] (fun d=>(Atf).val) fun r=>([rv g_5 r],[])
theorem A19:Fn Tryz.prog 395 .plain Atk:=mkF [] trivial Tryz.func395 0
def Alq:As:=Ar [g_5] (fun d=>(Zp d.1).val) fun r=>([rv g_1 r],[])
theorem Av0:Fn Tryz.prog 409 .plain Alq:=Db [(66,.plain,Ca)] ⟨By,trivial⟩ ⟨[(0,.v false [(.sl 3 [.int .i64],.ro)]),(3,.v false [(.int .i64,.nil)])],[],[]⟩ 3000000 [(.ret,⟨[(2,.v false [(.bool,.nil)])],[],[]⟩),((.exit 0),⟨[(0,.v false [(.sl 3 [.int .i64],.ro)])],[],[]⟩)] 2 Kc Tryz.func409 0
def A04:As:=Ar [] (fun d=>(A00).val) fun r=>([rv g_5 r],[])
theorem A6z:Fn Tryz.prog 410 .plain A04:=mkF [] trivial Tryz.func410 0
def Av1:As:=Ar [g_0,g_3,g_3] (fun d=>(Amx d.1 d.2.1 d.2.2.1).val) fun r=>([rv g_3 r.1,rv g_3 r.2.1,rv g_1 r.2.2],[])
theorem A4a:Fn Tryz.prog 210 .plain Av1:=Db [] trivial ⟨[(0,.v false [(.sl 5 [.int .u8],.ro)]),(1,.v false [(.int .i64,.nil)]),(2,.v false [(.int .i64,.nil)]),(9,.v false [(.int .i64,.nil)]),(10,.v false [(.int .i64,.nil)])],[],[]⟩ 6000000 [((.exit 0),⟨[(1,.v false [(.int .i64,.nil)]),(2,.v false [(.int .i64,.nil)]),(9,.v false [(.int .i64,.nil)])],[],[]⟩)] 5 Mb Tryz.func210 0
def Arx:As:=Ar [g_3,g_3] (fun d=>(Ari d.1 d.2.1).val) fun r=>([rv g_3 r],[])
theorem Av2:Fn Tryz.prog 412 .plain Arx:=mkF [] trivial Tryz.func412 0
def Aii:As:=Ar [g_0] (fun d=>(Pc d.1).val) fun r=>([rv g_5 r],[])
def Lg:Fns:=[(210,.plain,Av1),(412,.plain,Arx)]
theorem Wn:CfgOk Tryz.prog (D3 Lg):=Gn Ny Kd (show K4 Tryz.prog Lg from⟨A4a,Av2,trivial⟩)
def Xx:Sk:=⟨[(3,.v false [(.sl 3 [.int .i64],(.own 11000000))]),(8,.v false [(.int .i64,.nil)])],[],[11000000]⟩
def Xy:List (Ex×Sk):=[((.exit 2),⟨[(3,.v false [(.sl 3 [.int .i64],(.own 11000000))])],[],[11000000]⟩)]
def Ab0:Sk:=⟨[(0,.v false [(.sl 5 [.int .u8],.ro)]),(3,.v false [(.sl 3 [.int .i64],(.own 6000000))]),(4,.v false [(.int .i64,.nil)])],[],[6000000]⟩
def Ab1:List (Ex×Sk):=[((.exit 0),⟨[(3,.v false [(.sl 3 [.int .i64],(.own 6000000))])],[],[6000000]⟩)]
def Lh:Fk:=fun i st=>cond (Nat.beq i 5) (lam Ab0 6000000 Ab1 Hc st) <| cond (Nat.beq i 10) (lam Xx 11000000 Xy Gc st) <| .fail
theorem Ao3 (cx:Cx) (hp:cx.pin.length≤0):Dt Tryz.prog cx Tryz.f411.ntmps Lh (A8 Tryz.f411 0):=Fh Wn hp (Dl (by kernel_rfl:Bq (A8 Tryz.f411 0)=[]) trivial) (by kernel_rfl) (fun d=>(by kernel_rfl:bod (D3 Lg) 0 Tryz.f411.ntmps Lh (A8 Tryz.f411 0) Ab0 6000000 Ab1 d=Hc d))
theorem Anr (cx:Cx) (hp:cx.pin.length≤0):Dt Tryz.prog cx Tryz.f411.ntmps Lh (A8 Tryz.f411 1):=Fh Wn hp (Dl (by kernel_rfl:Bq (A8 Tryz.f411 1)=[]) trivial) (by kernel_rfl) (fun d=>(by kernel_rfl:bod (D3 Lg) 0 Tryz.f411.ntmps Lh (A8 Tryz.f411 1) Xx 11000000 Xy d=Gc d))
theorem Auv:Fn Tryz.prog 411 .plain Aii:=P2 Wn Tryz.func411 (by kernel_rfl) (by kernel_rfl) (fun cx b hp hb=>Dl (by kernel_rfl:Bq (Tryz.f411.body.getD .skip)=[A8 Tryz.f411 0,A8 Tryz.f411 1]) ⟨Ao3 cx hp,Anr cx hp,trivial⟩ b hb) (fun d=>(by kernel_rfl:Hw (D3 Lg) 0 Lh Tryz.f411 .plain (mkA [g_0] d)=(Pc d.1).run fun r=>some ([rv g_5 r],[])))
def Aij:As:=Ar [g_5,g_0] (fun d=>(Pd d.1 d.2.1).val) fun r=>([rv g_5 r],[])
def Li:Fns:=[(409,.plain,Alq),(410,.plain,A04),(411,.plain,Aii),(412,.plain,Arx)]
theorem Wo:CfgOk Tryz.prog (D3 Li):=Gn Ny Kd (show K4 Tryz.prog Li from⟨Av0,A6z,Auv,Av2,trivial⟩)
def Xz:Sk:=⟨[(0,.v false [(.sl 3 [.int .i64],.ro)]),(5,.v false [(.sl 3 [.int .i64],(.own 23000000))]),(19,.v false [(.sl 3 [.int .i64],(.own 23000001))]),(20,.v false [(.int .i64,.nil)])],[],[23000000,23000001]⟩
def X0:List (Ex×Sk):=[((.exit 2),⟨[(5,.v false [(.sl 3 [.int .i64],(.own 23000000))])],[],[23000000]⟩)]
def Ab2:Sk:=⟨[(0,.v false [(.sl 3 [.int .i64],.ro)]),(5,.v false [(.sl 3 [.int .i64],(.own 9000000))]),(6,.v false [(.sl 3 [.int .i64],(.own 9000001))]),(7,.v false [(.sl 3 [.int .i64],(.own 9000002))]),(8,.v false [(.int .i64,.nil)]),(9,.v false [(.int .i64,.nil)]),(10,.v false [(.int .i64,.nil)]),(11,.v false [(.int .i64,.nil)]),(12,.v false [(.int .i64,.nil)]),(13,.v false [(.int .i64,.nil)]),(14,.v false [(.int .i64,.nil)]),(15,.v false [(.int .i64,.nil)]),(16,.v false [(.int .i64,.nil)])],[],[9000000,9000001,9000002]⟩
def Ab3:List (Ex×Sk):=[((.exit 0),⟨[(0,.v false [(.sl 3 [.int .i64],.ro)]),(5,.v false [(.sl 3 [.int .i64],(.own 9000000))]),(8,.v false [(.int .i64,.nil)]),(9,.v false [(.int .i64,.nil)]),(10,.v false [(.int .i64,.nil)]),(11,.v false [(.int .i64,.nil)]),(12,.v false [(.int .i64,.nil)]),(13,.v false [(.int .i64,.nil)]),(14,.v false [(.int .i64,.nil)]),(15,.v false [(.int .i64,.nil)])],[],[9000000]⟩)]
def Lj:Fk:=fun i st=>cond (Nat.beq i 8) (lam Ab2 9000000 Ab3 Fq st) <| cond (Nat.beq i 22) (lam Xz 23000000 X0 E8 st) <| .fail
theorem Ao4 (cx:Cx) (hp:cx.pin.length≤0):Dt Tryz.prog cx Tryz.f396.ntmps Lj (A8 Tryz.f396 0):=Fh Wo hp (Dl (by kernel_rfl:Bq (A8 Tryz.f396 0)=[]) trivial) (by kernel_rfl) (fun d=>(by kernel_rfl:bod (D3 Li) 0 Tryz.f396.ntmps Lj (A8 Tryz.f396 0) Ab2 9000000 Ab3 d=Fq d))
theorem Ant (cx:Cx) (hp:cx.pin.length≤0):Dt Tryz.prog cx Tryz.f396.ntmps Lj (A8 Tryz.f396 1):=Fh Wo hp (Dl (by kernel_rfl:Bq (A8 Tryz.f396 1)=[]) trivial) (by kernel_rfl) (fun d=>(by kernel_rfl:bod (D3 Li) 0 Tryz.f396.ntmps Lj (A8 Tryz.f396 1) Xz 23000000 X0 d=E8 d))
theorem Auw:Fn Tryz.prog 396 .plain Aij:=P2 Wo Tryz.func396 (by kernel_rfl) (by kernel_rfl) (fun cx b hp hb=>Dl (by kernel_rfl:Bq (Tryz.f396.body.getD .skip)=[A8 Tryz.f396 0,A8 Tryz.f396 1]) ⟨Ao4 cx hp,Ant cx hp,trivial⟩ b hb) (fun d=>(by kernel_rfl:Hw (D3 Li) 0 Lj Tryz.f396 .plain (mkA [g_5,g_0] d)=(Pd d.1 d.2.1).run fun r=>some ([rv g_5 r],[])))
def Atl:As:=Ar [g_5] (fun d=>(Aht d.1).val) fun r=>([rv g_0 r],[])
theorem A2a:Fn Tryz.prog 397 .plain Atl:=Db [(217,.plain,Od)] ⟨Oq,trivial⟩ ⟨[(0,.v false [(.sl 3 [.int .i64],.ro)]),(3,.v false [(.sl 5 [.int .u8],(.own 4000000))]),(4,.v false [(.int .i64,.nil)])],[],[4000000]⟩ 4000000 [((.exit 0),⟨[(3,.v false [(.sl 5 [.int .u8],(.own 4000000))])],[],[4000000]⟩)] 3 Kl Tryz.func397 0
def Ary:As:=Ar [g_0] (fun d=>(Arj d.1).val) fun r=>([rv g_0 r],[])
theorem Av3:Fn Tryz.prog 371 .plain Ary:=Db [(394,.plain,A03),(395,.plain,Atk),(396,.plain,Aij),(397,.plain,Atl)] ⟨A6y,A19,Auw,A2a,trivial⟩ ⟨[(3,.v false [(.sl 5 [.int .u8],(.own 7000000))]),(4,.v false [(.sl 3 [.int .i64],(.own 7000001))]),(5,.v false [(.int .i64,.nil)])],[],[7000000,7000001]⟩ 7000000 [((.exit 0),⟨[(4,.v false [(.sl 3 [.int .i64],(.own 7000000))])],[],[7000000]⟩)] 6 Om Tryz.func371 0
def Aik:As:=Ar [g_0] (fun d=>(Vh d.1).val) fun r=>([rv g_0 r],[])
theorem Aux:Fn Tryz.prog 370 .plain Aik:=Db [(371,.plain,Ary)] ⟨Av3,trivial⟩ ⟨[(3,.v false [(.sl 5 [.int .u8],(.own 7000000))])],[],[7000000]⟩ 7000000 [((.exit 0),⟨[(3,.v false [(.sl 5 [.int .u8],(.own 7000000))])],[],[7000000]⟩)] 6 Mc Tryz.func370 0
def Wp:As:=Ar [g_0,g_0] (fun d=>(Amz d.1 d.2.1).val) fun r=>([rv g_0 r],[])
theorem X1:Fn Tryz.prog 319 .plain Wp:=Db [(370,.plain,Aik),(371,.plain,Ary)] ⟨Aux,Av3,trivial⟩ ⟨[(1,.v false [(.sl 5 [.int .u8],.ro)]),(5,.v false [(.sl 5 [.int .u8],(.own 8000000))]),(6,.v false [(.sl 5 [.int .u8],(.own 8000001))]),(7,.v false [(.sl 5 [.int .u8],(.own 8000002))]),(8,.v false [(.int .i64,.nil)])],[],[8000000,8000001,8000002]⟩ 8000000 [((.exit 0),⟨[(1,.v false [(.sl 5 [.int .u8],.ro)]),(6,.v false [(.sl 5 [.int .u8],(.own 8000000))]),(7,.v false [(.sl 5 [.int .u8],(.own 8000001))])],[],[8000000,8000001]⟩)] 7 Md Tryz.func319 0
def Aaq:As:=Ar [g_0,g_0] (fun d=>(R4 d.1 d.2.1).val) fun r=>([rv g_0 r],[])
theorem Ail:Fn Tryz.prog 226 .plain Aaq:=mkF [(319,.plain,Wp)] ⟨X1,trivial⟩ Tryz.func226 0
def Ao5:As:=Ar [g_0,g_0,g_3] (fun d=>(Ac0 d.1 d.2.1 d.2.2.1).val) fun r=>([rv g_0 r.1,rv g_1 r.2],[])
theorem Azd:Fn Tryz.prog 324 .plain Ao5:=Db [(66,.plain,Ca),(319,.plain,Wp)] ⟨By,X1,trivial⟩ ⟨[(0,.v false [(.sl 5 [.int .u8],.ro)]),(1,.v false [(.sl 5 [.int .u8],.ro)]),(2,.v false [(.int .i64,.nil)]),(8,.v false [(.sl 5 [.int .u8],(.own 7000000))]),(9,.v false [(.sl 5 [.int .u8],(.own 7000001))]),(10,.v false [(.int .i64,.nil)])],[],[7000000,7000001]⟩ 7000000 [((.exit 0),⟨[(2,.v false [(.int .i64,.nil)]),(8,.v false [(.sl 5 [.int .u8],(.own 7000000))])],[],[7000000]⟩)] 6 I3 Tryz.func324 0
def Mp:As:=Ar [g_0,g_6] (fun d=>(Ac2 d.1 d.2.1).val) fun r=>([rv g_0 r],[])
theorem Nc:Fn Tryz.prog 225 .plain Mp:=mkF [(324,.plain,Ao5)] ⟨Azd,trivial⟩ Tryz.func225 0
def Agy:As:=Ar [g_0] (fun d=>(Tq d.1).val) fun r=>([rv g_0 r],[])
theorem Arz:Fn Tryz.prog 82 .plain Agy:=mkF [(180,.plain,Xw),(226,.plain,Aaq),(225,.plain,Mp)] ⟨Ae8,Ail,Nc,trivial⟩ Tryz.func82 0
def Agz:As:=Ar [g_3,g_0,g_0,g_3,g_0] (fun d=>(Ts d.1 d.2.1 d.2.2.1 d.2.2.2.1 d.2.2.2.2.1).val) fun r=>([rv g_0 r],[])
theorem Ar0:Fn Tryz.prog 83 .plain Agz:=mkF [(66,.plain,Ca),(217,.plain,Od)] ⟨By,Oq,trivial⟩ Tryz.func83 0
def Aky:As:=Ar [g_0,g_0] (fun d=>(Ark d.1 d.2.1).val) fun r=>([rv g_0 r],[])
theorem Anu:Fn Tryz.prog 215 .plain Aky:=mkF [(319,.plain,Wp)] ⟨X1,trivial⟩ Tryz.func215 0
def Atm:As:=Ar [g_0,g_3,g_0,g_0,g_3,g_0] (fun d=>(Ahv d.1 d.2.1 d.2.2.1 d.2.2.2.1 d.2.2.2.2.1 d.2.2.2.2.2.1).val) fun r=>([rv g_0 r],[])
theorem A2b:Fn Tryz.prog 220 .plain Atm:=mkF [(82,.plain,Agy),(83,.plain,Agz),(215,.plain,Aky)] ⟨Arz,Ar0,Anu,trivial⟩ Tryz.func220 0
def Ae9:As:=Ar [g_4] (fun d=>(Ac3 d.1).val) fun r=>([rv g_4 r],[])
theorem Alr:Fn Tryz.prog 296 .plain Ae9:=mkF [] trivial Tryz.func296 0
def Aim:As:=Ar [g_0,g_3,g_4] (fun d=>(Vj d.1 d.2.1 d.2.2.1).val) fun r=>([rv g_4 r.1,rv g_1 r.2],[])
theorem Auy:Fn Tryz.prog 263 .plain Aim:=mkF [(185,.plain,Nb),(220,.plain,Atm),(296,.plain,Ae9)] ⟨P4,A2b,Alr,trivial⟩ Tryz.func263 0
def Dz:As:=Ar [g_2,g_5] (fun d=>(Ahw d.1 d.2.1).val) fun r=>([rv g_3 r.1],[rv g_2 r.2])
theorem Dr:Fn Tryz.prog 127 (.box [3] true true) Dz:=mkF [(175,(.box [3] true true),Cu)] ⟨Co,trivial⟩ Tryz.func127 1
def Rh:As:=Ar [g_3] (fun d=>(Ac4 d.1).val) fun r=>([rv g_7 r],[])
theorem S2:Fn Tryz.prog 197 .plain Rh:=mkF [(66,.plain,Ca)] ⟨By,trivial⟩ Tryz.func197 0
def P5:As:=Ar [g_7] (fun d=>(Ac5 d.1).val) fun r=>([rv g_1 r],[])
theorem Sf:Fn Tryz.prog 67 .plain P5:=mkF [(66,.plain,Ca)] ⟨By,trivial⟩ Tryz.func67 0
def Als:As:=Ar [g_0,g_0,g_0] (fun d=>(Zr d.1 d.2.1 d.2.2.1).val) fun r=>([rv g_0 r],[])
theorem Av4:Fn Tryz.prog 322 .plain Als:=mkF [(180,.plain,Xw),(226,.plain,Aaq)] ⟨Ae8,Ail,trivial⟩ Tryz.func322 0
def Ain:As:=Ar [g_0] (fun d=>(Vl d.1).val) fun r=>([rv g_0 r],[])
theorem Auz:Fn Tryz.prog 321 .plain Ain:=mkF [(225,.plain,Mp)] ⟨Nc,trivial⟩ Tryz.func321 0
def Atn:As:=Ar [g_0,g_3] (fun d=>(Ahx d.1 d.2.1).val) fun r=>([rv g_0 r],[])
theorem A2c:Fn Tryz.prog 323 .plain Atn:=Db [(66,.plain,Ca),(225,.plain,Mp)] ⟨By,Nc,trivial⟩ ⟨[(1,.v false [(.int .i64,.nil)]),(5,.v false [(.sl 5 [.int .u8],(.own 6000000))]),(6,.v false [(.int .i64,.nil)])],[],[6000000]⟩ 6000000 [((.exit 0),⟨[(5,.v false [(.sl 5 [.int .u8],(.own 6000000))])],[],[6000000]⟩)] 5 Km Tryz.func323 0
def Aio:As:=Ar [g_0,g_0,g_0,g_3] (fun d=>(Vn d.1 d.2.1 d.2.2.1 d.2.2.2.1).val) fun r=>([rv g_0 r],[])
theorem Au0:Fn Tryz.prog 222 .plain Aio:=mkF [(322,.plain,Als),(321,.plain,Ain),(323,.plain,Atn)] ⟨Av4,Auz,A2c,trivial⟩ Tryz.func222 0
def Afa:As:=Ar [] (fun d=>(Ac6).val) fun r=>([rv g_8 r],[])
theorem Alt:Fn Tryz.prog 360 .plain Afa:=Db [] trivial ⟨[(0,.box 0 0),(1,.box 1 0),(2,.v false [(.int .i64,.nil)])],[(0,[(.int .i64,.nil),(.sl 3 [.int .i64],(.own 4000000))]),(1,[(.int .i64,.nil),(.sl 3 [.int .i64],(.own 4000001))])],[4000000,4000001]⟩ 4000000 [((.exit 0),⟨[(0,.box 0 0),(1,.box 1 0)],[(0,[(.int .i64,.nil),(.sl 3 [.int .i64],(.own 4000000))]),(1,[(.int .i64,.nil),(.sl 3 [.int .i64],(.own 4000001))])],[4000000,4000001]⟩)] 3 I4 Tryz.func360 0
def Lk:As:=Ar [g_3,g_0] (fun d=>(Sx d.1 d.2.1).val) fun r=>([rv g_9 r],[])
theorem Mq:Fn Tryz.prog 299 .plain Lk:=mkF [(66,.plain,Ca),(360,.plain,Afa)] ⟨By,Alt,trivial⟩ Tryz.func299 0
def Aar:As:=Ar [g_3,g_0,g_0] (fun d=>(Zt d.1 d.2.1 d.2.2.1).val) fun r=>([rv Do r],[])
theorem Aip:Fn Tryz.prog 221 .plain Aar:=mkF [(66,.plain,Ca),(299,.plain,Lk)] ⟨By,Mq,trivial⟩ Tryz.func221 0
def Wq:As:=Ar [g_7] (fun d=>(Ahz d.1).val) fun r=>([rv Fc r],[])
theorem Ag0:Fn Tryz.prog 223 .plain Wq:=mkF [] trivial Tryz.func223 0
def Alu:As:=Ar [g_0,g_3,g_7,g_4] (fun d=>(Zu d.1 d.2.1 d.2.2.1 d.2.2.2.1).val) fun r=>([rv Ft r],[])
theorem Av5:Fn Tryz.prog 79 .plain Alu:=mkF [(180,.plain,Xw),(66,.plain,Ca),(67,.plain,P5),(185,.plain,Nb),(222,.plain,Aio),(221,.plain,Aar),(223,.plain,Wq)] ⟨Ae8,By,Sf,P4,Au0,Aip,Ag0,trivial⟩ Tryz.func79 0
def Gy:As:=Ar [g_2,g_3] (fun d=>(Ac7 d.1 d.2.1).val) fun r=>([rv g_1 r.1],[rv g_2 r.2])
theorem G8:Fn Tryz.prog 167 (.box [3] true true) Gy:=mkF [(175,(.box [3] true true),Cu)] ⟨Co,trivial⟩ Tryz.func167 1
def Ao6:As:=Ar [g_2,g_3] (fun d=>(Ac8 d.1 d.2.1).val) fun r=>([rv g_5 r.1],[rv g_2 r.2])
theorem Aze:Fn Tryz.prog 379 (.box [3] true true) Ao6:=Db [(127,(.box [3] true true),Dz),(175,(.box [3] true true),Cu),(167,(.box [3] true true),Gy)] ⟨Dr,Co,G8,trivial⟩ ⟨[(0,.box 0 0),(5,.v false [(.sl 3 [.int .i64],(.own 5000000))]),(6,.v false [(.int .i64,.nil)]),(7,.v false [(.int .i64,.nil)])],[(0,[(.sl 5 [.int .u8],(.pin 0)),(.int .i64,.nil),(.int .i64,.nil)])],[5000000]⟩ 5000000 [((.exit 0),⟨[(0,.box 0 0),(5,.v false [(.sl 3 [.int .i64],(.own 5000000))])],[(0,[(.sl 5 [.int .u8],(.pin 0)),(.int .i64,.nil),(.int .i64,.nil)])],[5000000]⟩)] 4 Pg Tryz.func379 1
def Afb:As:=Ar [g_8] (fun d=>(Aoy d.1).val) fun r=>([rv g_8 r],[])
theorem Alv:Fn Tryz.prog 389 .plain Afb:=mkF [] trivial Tryz.func389 0
def Aiq:As:=Ar [g_8,g_3] (fun d=>(Ah0 d.1 d.2.1).val) fun r=>([rv g_1 r],[])
theorem Ao7:Fn Tryz.prog 390 .plain Aiq:=mkF [] trivial Tryz.func390 0
def Air:As:=Ar [g_8] (fun d=>(Xk d.1).val) fun r=>([rv g_1 r],[])
def S3:Fns:=[(66,.plain,Ca),(390,.plain,Aiq)]
theorem Ais:CfgOk Tryz.prog (D3 S3):=Gn Ny Kd (show K4 Tryz.prog S3 from⟨By,Ao7,trivial⟩)
def Ait:Sk:=⟨[(1,.box 1 0),(4,.v false [(.int .i64,.nil)])],[(1,[(.int .i64,.nil),(.sl 3 [.int .i64],.ro)])],[]⟩
def Aiu:List (Ex×Sk):=[(.ret,⟨[(2,.v false [(.bool,.nil)])],[],[]⟩),((.exit 2),⟨[],[],[]⟩)]
def Alw:Sk:=⟨[(1,.box 1 0),(3,.v false [(.int .i64,.nil)])],[(1,[(.int .i64,.nil),(.sl 3 [.int .i64],.ro)])],[]⟩
def Alx:List (Ex×Sk):=[(.ret,⟨[(2,.v false [(.bool,.nil)])],[],[]⟩),((.exit 0),⟨[(1,.box 1 0)],[(1,[(.int .i64,.nil),(.sl 3 [.int .i64],.ro)])],[]⟩)]
def S4:Fk:=fun i st=>cond (Nat.beq i 4) (lam Alw 5000000 Alx Iq st) <| cond (Nat.beq i 11) (lam Ait 12000000 Aiu F5 st) <| .fail
theorem Av6 (cx:Cx) (hp:cx.pin.length≤0):Dt Tryz.prog cx Tryz.f364.ntmps S4 (A8 Tryz.f364 0):=Fh Ais hp (Dl (by kernel_rfl:Bq (A8 Tryz.f364 0)=[]) trivial) (by kernel_rfl) (fun d=>(by kernel_rfl:bod (D3 S3) 0 Tryz.f364.ntmps S4 (A8 Tryz.f364 0) Alw 5000000 Alx d=Iq d))
theorem Au1 (cx:Cx) (hp:cx.pin.length≤0):Dt Tryz.prog cx Tryz.f364.ntmps S4 (A8 Tryz.f364 1):=Fh Ais hp (Dl (by kernel_rfl:Bq (A8 Tryz.f364 1)=[]) trivial) (by kernel_rfl) (fun d=>(by kernel_rfl:bod (D3 S3) 0 Tryz.f364.ntmps S4 (A8 Tryz.f364 1) Ait 12000000 Aiu d=F5 d))
theorem Ao8:Fn Tryz.prog 364 .plain Air:=P2 Ais Tryz.func364 (by kernel_rfl) (by kernel_rfl) (fun cx b hp hb=>Dl (by kernel_rfl:Bq (Tryz.f364.body.getD .skip)=[A8 Tryz.f364 0,A8 Tryz.f364 1]) ⟨Av6 cx hp,Au1 cx hp,trivial⟩ b hb) (fun d=>(by kernel_rfl:Hw (D3 S3) 0 S4 Tryz.f364 .plain (mkA [g_8] d)=(Xk d.1).run fun r=>some ([rv g_1 r],[])))
def Aly:As:=Ar [g_3] (fun d=>(Zw d.1).val) fun r=>([rv g_3 r],[])
theorem Av7:Fn Tryz.prog 391 .plain Aly:=mkF [] trivial Tryz.func391 0
def Afc:As:=Ar [g_8,g_3] (fun d=>(Adb d.1 d.2.1).val) fun r=>([rv g_1 r],[])
theorem Alz:Fn Tryz.prog 365 .plain Afc:=mkF [(364,.plain,Air),(66,.plain,Ca),(391,.plain,Aly),(390,.plain,Aiq)] ⟨Ao8,By,Av7,Ao7,trivial⟩ Tryz.func365 0
def Afd:As:=Ar [g_8,g_3] (fun d=>(Adc d.1 d.2.1).val) fun r=>([rv g_8 r.1,rv g_1 r.2],[])
theorem Al0:Fn Tryz.prog 367 .plain Afd:=Db [(389,.plain,Afb),(365,.plain,Afc)] ⟨Alv,Alz,trivial⟩ ⟨[(1,.v false [(.int .i64,.nil)]),(2,.box 2 0),(4,.box 4 0),(6,.box 6 0),(7,.v false [(.int .i64,.nil)]),(8,.v false [(.int .i64,.nil)])],[(2,[(.int .i64,.nil),(.sl 3 [.int .i64],.ro)]),(4,[(.int .i64,.nil),(.sl 3 [.int .i64],(.own 7000000))]),(6,[(.int .i64,.nil),(.sl 3 [.int .i64],(.own 7000001))])],[7000000,7000001]⟩ 7000000 [((.exit 0),⟨[(1,.v false [(.int .i64,.nil)]),(2,.box 2 0),(4,.box 4 0),(6,.box 6 0)],[(2,[(.int .i64,.nil),(.sl 3 [.int .i64],.ro)]),(4,[(.int .i64,.nil),(.sl 3 [.int .i64],(.own 7000000))]),(6,[(.int .i64,.nil),(.sl 3 [.int .i64],(.own 7000001))])],[7000000,7000001]⟩)] 6 I5 Tryz.func367 0
def Ato:As:=Ar [g_5] (fun d=>(Ah1 d.1).val) fun r=>([rv g_8 r],[])
theorem A2d:Fn Tryz.prog 378 .plain Ato:=Db [(360,.plain,Afa),(367,.plain,Afd)] ⟨Alt,Al0,trivial⟩ ⟨[(0,.v false [(.sl 3 [.int .i64],.ro)]),(2,.box 2 0),(3,.box 3 0),(4,.v false [(.int .i64,.nil)])],[(2,[(.int .i64,.nil),(.sl 3 [.int .i64],(.own 4000000))]),(3,[(.int .i64,.nil),(.sl 3 [.int .i64],(.own 4000001))])],[4000000,4000001]⟩ 4000000 [((.exit 0),⟨[(2,.box 2 0),(3,.box 3 0)],[(2,[(.int .i64,.nil),(.sl 3 [.int .i64],(.own 4000000))]),(3,[(.int .i64,.nil),(.sl 3 [.int .i64],(.own 4000001))])],[4000000,4000001]⟩)] 3 R7 Tryz.func378 0
def Ux:As:=Ar [g_2] (fun d=>(Ade d.1).val) fun r=>([rv g_8 r.1],[rv g_2 r.2])
theorem Aas:Fn Tryz.prog 342 (.box [3] true true) Ux:=mkF [(379,(.box [3] true true),Ao6),(378,.plain,Ato)] ⟨Aze,A2d,trivial⟩ Tryz.func342 1
def Aat:As:=Ar [g_2,g_3] (fun d=>(Zx d.1 d.2.1).val) fun r=>([rv Do r.1],[rv g_2 r.2])
theorem Aiv:Fn Tryz.prog 264 (.box [3] true true) Aat:=mkF [(128,(.box [3] true true),Ed),(221,.plain,Aar),(127,(.box [3] true true),Dz),(167,(.box [3] true true),Gy),(342,(.box [3] true true),Ux),(225,.plain,Mp),(299,.plain,Lk)] ⟨D6,Aip,Dr,G8,Aas,Nc,Mq,trivial⟩ Tryz.func264 1
def Nd:As:=Ar [Fc] (fun d=>(R9 d.1).val) fun r=>([rv g_1 r],[])
def Nf:Fns:=[(67,.plain,P5),(66,.plain,Ca)]
theorem Aau:CfgOk Tryz.prog (D3 Nf):=Gn Ny Kd (show K4 Tryz.prog Nf from⟨Sf,By,trivial⟩)
def Ag1:Sk:=⟨[(1,.box 1 0),(3,.v false [(.int .i64,.nil)])],[(1,[(.int .i64,.nil),(.int .i64,.nil),(.sl 86 h_5,.ro)])],[]⟩
def Ag2:List (Ex×Sk):=[(.ret,⟨[(2,.v false [(.bool,.nil)])],[],[]⟩),((.exit 0),⟨[],[],[]⟩)]
def Ab4:Sk:=⟨[(1,.box 1 0),(3,.v false [(.int .i64,.nil)]),(4,.box 4 0),(5,.v false [(.int .i64,.nil)])],[(1,[(.int .i64,.nil),(.int .i64,.nil),(.sl 86 h_5,.ro)]),(4,[(.int .i64,.nil),(.int .i64,.nil),(.sl 5 [.int .u8],.ro),(.int .i64,.nil)])],[]⟩
def Ab5:List (Ex×Sk):=[(.ret,⟨[(2,.v false [(.bool,.nil)])],[],[]⟩),((.exit 2),⟨[(1,.box 1 0),(3,.v false [(.int .i64,.nil)])],[(1,[(.int .i64,.nil),(.int .i64,.nil),(.sl 86 h_5,.ro)])],[]⟩)]
def Ng:Fk:=fun i st=>cond (Nat.beq i 10) (lam Ab4 11000000 Ab5 Fr st) <| cond (Nat.beq i 4) (lam Ag1 5000000 Ag2 Hz st) <| .fail
theorem Ao9 (cx:Cx) (hp:cx.pin.length≤0):Dt Tryz.prog cx Tryz.f198.ntmps Ng (A8 Tryz.f198 1):=Fh Aau hp (Dl (by kernel_rfl:Bq (A8 Tryz.f198 1)=[]) trivial) (by kernel_rfl) (fun d=>(by kernel_rfl:bod (D3 Nf) 0 Tryz.f198.ntmps Ng (A8 Tryz.f198 1) Ab4 11000000 Ab5 d=Fr d))
theorem Ar1 (cx:Cx) (hp:cx.pin.length≤0):Dt Tryz.prog cx Tryz.f198.ntmps Ng (A8 Tryz.f198 0):=Fh Aau hp (Dl (by kernel_rfl:Bq (A8 Tryz.f198 0)=[A8 Tryz.f198 1]) ⟨Ao9 cx hp,trivial⟩) (by kernel_rfl) (fun d=>(by kernel_rfl:bod (D3 Nf) 0 Tryz.f198.ntmps Ng (A8 Tryz.f198 0) Ag1 5000000 Ag2 d=Hz d))
theorem P6:Fn Tryz.prog 198 .plain Nd:=P2 Aau Tryz.func198 (by kernel_rfl) (by kernel_rfl) (fun cx b hp hb=>Dl (by kernel_rfl:Bq (Tryz.f198.body.getD .skip)=[A8 Tryz.f198 0]) ⟨Ar1 cx hp,trivial⟩ b hb) (fun d=>(by kernel_rfl:Hw (D3 Nf) 0 Ng Tryz.f198 .plain (mkA [Fc] d)=(R9 d.1).run fun r=>some ([rv g_1 r],[])))
def Nh:As:=Ar [A6w] (fun d=>(Zy d.1).val) fun r=>([rv A6w r],[])
theorem P7:Fn Tryz.prog 314 .plain Nh:=mkF [] trivial Tryz.func314 0
def Ni:As:=Ar [Fc] (fun d=>(Zz d.1).val) fun r=>([rv Fc r],[])
theorem P8:Fn Tryz.prog 310 .plain Ni:=Db [(314,.plain,Nh)] ⟨P7,trivial⟩ ⟨[(1,.box 1 0),(2,.box 2 0),(3,.box 3 0),(4,.v false [(.int .i64,.nil)])],[(1,[(.int .i64,.nil),(.int .i64,.nil),(.sl 86 h_5,.ro)]),(2,[(.int .i64,.nil),(.int .i64,.nil),(.sl 86 h_5,(.own 4000000))]),(3,[(.int .i64,.nil),(.int .i64,.nil),(.sl 86 h_5,(.own 4000001))])],[4000000,4000001]⟩ 4000000 [((.exit 0),⟨[(2,.box 2 0),(3,.box 3 0)],[(2,[(.int .i64,.nil),(.int .i64,.nil),(.sl 86 h_5,(.own 4000000))]),(3,[(.int .i64,.nil),(.int .i64,.nil),(.sl 86 h_5,(.own 4000001))])],[4000000,4000001]⟩)] 3 H0 Tryz.func310 0
def Aiw:As:=Ar [Fc,g_3] (fun d=>(Vq d.1 d.2.1).val) fun r=>([rv Fc r],[])
theorem Au2:Fn Tryz.prog 316 .plain Aiw:=Db [(198,.plain,Nd),(66,.plain,Ca),(310,.plain,Ni),(314,.plain,Nh)] ⟨P6,By,P8,P7,trivial⟩ ⟨[(1,.v false [(.int .i64,.nil)]),(2,.box 2 0),(4,.box 4 0),(5,.box 5 0),(6,.v false [(.int .i64,.nil)])],[(2,[(.int .i64,.nil),(.int .i64,.nil),(.sl 86 h_5,.ro)]),(4,[(.int .i64,.nil),(.int .i64,.nil),(.sl 86 h_5,(.own 6000000))]),(5,[(.int .i64,.nil),(.int .i64,.nil),(.sl 86 h_5,(.own 6000001))])],[6000000,6000001]⟩ 6000000 [((.exit 0),⟨[(4,.box 4 0),(5,.box 5 0)],[(4,[(.int .i64,.nil),(.int .i64,.nil),(.sl 86 h_5,(.own 6000000))]),(5,[(.int .i64,.nil),(.int .i64,.nil),(.sl 86 h_5,(.own 6000001))])],[6000000,6000001]⟩)] 5 Hd Tryz.func316 0
def Aix:As:=Ar [Fc,g_3,g_7,g_0] (fun d=>(Ah3 d.1 d.2.1 d.2.2.1 d.2.2.2.1).val) fun r=>([rv Fc r.1,rv g_1 r.2],[])
theorem Apa:Fn Tryz.prog 195 .plain Aix:=Db [(198,.plain,Nd),(66,.plain,Ca),(67,.plain,P5),(310,.plain,Ni),(316,.plain,Aiw)] ⟨P6,By,Sf,P8,Au2,trivial⟩ ⟨[(1,.v false [(.int .i64,.nil)]),(3,.v false [(.sl 5 [.int .u8],.ro)]),(4,.box 4 0),(6,.box 6 0),(8,.box 8 0),(10,.box 10 0),(11,.v false [(.int .i64,.nil)])],[(4,[(.int .i64,.nil),(.int .i64,.nil),(.sl 86 h_5,.ro)]),(6,[(.int .i64,.nil),(.int .i64,.nil)]),(8,[(.int .i64,.nil),(.int .i64,.nil),(.sl 86 h_5,(.own 6000000))]),(10,[(.int .i64,.nil),(.int .i64,.nil),(.sl 86 h_5,(.own 6000001))])],[6000000,6000001]⟩ 6000000 [(.ret,⟨[(8,.box 8 0),(9,.v false [(.bool,.nil)])],[(8,[(.int .i64,.nil),(.int .i64,.nil),(.sl 86 h_5,(.own 6000000))])],[6000000]⟩),((.exit 0),⟨[(1,.v false [(.int .i64,.nil)]),(3,.v false [(.sl 5 [.int .u8],.ro)]),(4,.box 4 0),(6,.box 6 0),(8,.box 8 0),(10,.box 10 0)],[(4,[(.int .i64,.nil),(.int .i64,.nil),(.sl 86 h_5,.ro)]),(6,[(.int .i64,.nil),(.int .i64,.nil)]),(8,[(.int .i64,.nil),(.int .i64,.nil),(.sl 86 h_5,(.own 6000000))]),(10,[(.int .i64,.nil),(.int .i64,.nil),(.sl 86 h_5,(.own 6000001))])],[6000000,6000001]⟩)] 5 Kp Tryz.func195 0
def Aav:As:=Ar [g_2] (fun d=>(Z0 d.1).val) fun r=>([rv Fc r.1],[rv g_2 r.2])
theorem Aiy:Fn Tryz.prog 265 (.box [3] true true) Aav:=Db [(175,(.box [3] true true),Cu),(197,.plain,Rh),(223,.plain,Wq),(128,(.box [3] true true),Ed),(195,.plain,Aix)] ⟨Co,S2,Ag0,D6,Apa,trivial⟩ ⟨[(0,.box 0 0),(2,.box 2 0),(3,.box 3 0),(4,.v false [(.int .i64,.nil)]),(5,.v false [(.int .i64,.nil)])],[(0,[(.sl 5 [.int .u8],(.pin 0)),(.int .i64,.nil),(.int .i64,.nil)]),(2,[(.int .i64,.nil),(.int .i64,.nil),(.sl 86 h_5,(.own 5000000))]),(3,[(.int .i64,.nil),(.int .i64,.nil),(.sl 86 h_5,(.own 5000001))])],[5000000,5000001]⟩ 5000000 [((.exit 0),⟨[(0,.box 0 0),(2,.box 2 0),(3,.box 3 0)],[(0,[(.sl 5 [.int .u8],(.pin 0)),(.int .i64,.nil),(.int .i64,.nil)]),(2,[(.int .i64,.nil),(.int .i64,.nil),(.sl 86 h_5,(.own 5000000))]),(3,[(.int .i64,.nil),(.int .i64,.nil),(.sl 86 h_5,(.own 5000001))])],[5000000,5000001]⟩)] 4 Tu Tryz.func265 1
def Al1:As:=Ar [g_2] (fun d=>(Z1 d.1).val) fun r=>([rv Ft r.1],[rv g_2 r.2])
theorem Av8:Fn Tryz.prog 125 (.box [3] true false) Al1:=mkF [(128,(.box [3] true true),Ed),(175,(.box [3] true true),Cu),(173,(.box [3] true true),Agx),(263,.plain,Aim),(127,(.box [3] true true),Dz),(197,.plain,Rh),(79,.plain,Alu),(167,(.box [3] true true),Gy),(264,(.box [3] true true),Aat),(265,(.box [3] true true),Aav)] ⟨D6,Co,Arw,Auy,Dr,S2,Av5,G8,Aiv,Aiy,trivial⟩ Tryz.func125 1
def Av9:As:=Ar [g_2] (fun d=>(Am0 d.1).val) fun r=>([rv g_9 r.1],[rv g_2 r.2])
theorem A4b:Fn Tryz.prog 387 (.box [3] true true) Av9:=mkF [(127,(.box [3] true true),Dz),(128,(.box [3] true true),Ed),(299,.plain,Lk),(167,(.box [3] true true),Gy),(342,(.box [3] true true),Ux)] ⟨Dr,D6,Mq,G8,Aas,trivial⟩ Tryz.func387 1
def Atp:As:=Ar [g_2] (fun d=>(Ah4 d.1).val) fun r=>([rv g_8 r.1],[rv g_2 r.2])
theorem A2e:Fn Tryz.prog 388 (.box [3] true true) Atp:=mkF [(342,(.box [3] true true),Ux),(175,(.box [3] true true),Cu),(127,(.box [3] true true),Dz)] ⟨Aas,Co,Dr,trivial⟩ Tryz.func388 1
def Atq:As:=Ar [g_2] (fun d=>(Ah6 d.1).val) fun r=>([rv g_9 r.1],[rv g_2 r.2])
theorem A2f:Fn Tryz.prog 357 (.box [3] true true) Atq:=mkF [(387,(.box [3] true true),Av9),(175,(.box [3] true true),Cu),(127,(.box [3] true true),Dz),(128,(.box [3] true true),Ed),(388,(.box [3] true true),Atp)] ⟨A4b,Co,Dr,D6,A2e,trivial⟩ Tryz.func357 1
def Apb:As:=Ar [g_2] (fun d=>(Adf d.1).val) fun r=>([rv Do r.1],[rv g_2 r.2])
theorem Azf:Fn Tryz.prog 294 (.box [3] true true) Apb:=mkF [(175,(.box [3] true true),Cu),(264,(.box [3] true true),Aat),(127,(.box [3] true true),Dz),(128,(.box [3] true true),Ed),(357,(.box [3] true true),Atq)] ⟨Co,Aiv,Dr,D6,A2f,trivial⟩ Tryz.func294 1
def Apc:As:=Ar [g_2] (fun d=>(Adh d.1).val) fun r=>([rv g_7 r.1],[rv g_2 r.2])
theorem Azg:Fn Tryz.prog 344 (.box [3] true true) Apc:=mkF [(167,(.box [3] true true),Gy),(175,(.box [3] true true),Cu),(269,(.box [3] true true),P3),(197,.plain,Rh)] ⟨G8,Co,Se,S2,trivial⟩ Tryz.func344 1
def Atr:As:=Ar [g_2] (fun d=>(Ah7 d.1).val) fun r=>([rv g_3 r.1],[rv g_2 r.2])
theorem A2g:Fn Tryz.prog 345 (.box [3] true true) Atr:=mkF [(127,(.box [3] true true),Dz)] ⟨Dr,trivial⟩ Tryz.func345 1
def Aiz:As:=Ar [g_2] (fun d=>(Ah9 d.1).val) fun r=>([rv g_7 r.1],[rv g_2 r.2])
theorem Apd:Fn Tryz.prog 268 (.box [3] true true) Aiz:=mkF [(344,(.box [3] true true),Apc),(175,(.box [3] true true),Cu),(345,(.box [3] true true),Atr),(127,(.box [3] true true),Dz)] ⟨Azg,Co,A2g,Dr,trivial⟩ Tryz.func268 1
def Ape:As:=Ar [g_2] (fun d=>(Adj d.1).val) fun r=>([rv Fc r.1],[rv g_2 r.2])
theorem Azh:Fn Tryz.prog 308 (.box [3] true true) Ape:=mkF [(265,(.box [3] true true),Aav),(167,(.box [3] true true),Gy),(175,(.box [3] true true),Cu),(268,(.box [3] true true),Aiz),(128,(.box [3] true true),Ed),(127,(.box [3] true true),Dz)] ⟨Aiy,G8,Co,Apd,D6,Dr,trivial⟩ Tryz.func308 1
def Aaw:As:=Ar [g_9] (fun d=>(Z3 d.1).val) fun r=>([rv g_1 r],[])
theorem Ai0:Fn Tryz.prog 305 .plain Aaw:=mkF [] trivial Tryz.func305 0
def Ag3:As:=Ar [Do] (fun d=>(Tv d.1).val) fun r=>([rv g_1 r],[])
theorem Ar2:Fn Tryz.prog 183 .plain Ag3:=mkF [(305,.plain,Aaw)] ⟨Ai0,trivial⟩ Tryz.func183 0
def Afe:As:=Ar [g_9] (fun d=>(Am2 d.1).val) fun r=>([rv g_1 r],[])
theorem Ai1:Fn Tryz.prog 306 .plain Afe:=mkF [(66,.plain,Ca),(364,.plain,Air)] ⟨By,Ao8,trivial⟩ Tryz.func306 0
def H9:As:=Ar [Do] (fun d=>(Adl d.1).val) fun r=>([rv g_1 r],[])
theorem It:Fn Tryz.prog 184 .plain H9:=mkF [(66,.plain,Ca),(306,.plain,Afe),(305,.plain,Aaw)] ⟨By,Ai1,Ai0,trivial⟩ Tryz.func184 0
def P9:As:=Ar [g_0,g_0] (fun d=>(Aoz d.1 d.2.1).val) fun r=>([rv g_1 r],[])
theorem Si:Fn Tryz.prog 84 .plain P9:=mkF [] trivial Tryz.func84 0
def Uy:As:=Ar [Ft] (fun d=>(Adm d.1).val) fun r=>([rv g_1 r],[])
theorem Aax:Fn Tryz.prog 53 .plain Uy:=mkF [(66,.plain,Ca),(183,.plain,Ag3),(197,.plain,Rh),(184,.plain,H9),(84,.plain,P9),(198,.plain,Nd)] ⟨By,Ar2,S2,It,Si,P6,trivial⟩ Tryz.func53 0
def Qa:As:=Ar [g_9] (fun d=>(Adn d.1).val) fun r=>([rv g_9 r],[])
theorem Sj:Fn Tryz.prog 358 .plain Qa:=mkF [(389,.plain,Afb)] ⟨Alv,trivial⟩ Tryz.func358 0
def Ats:As:=Ar [g_9,g_1] (fun d=>(Aia d.1 d.2.1).val) fun r=>([rv g_9 r],[])
theorem A2h:Fn Tryz.prog 359 .plain Ats:=mkF [(358,.plain,Qa)] ⟨Sj,trivial⟩ Tryz.func359 0
def Iu:As:=Ar [Do] (fun d=>(Z4 d.1).val) fun r=>([rv Do r],[])
theorem Ji:Fn Tryz.prog 297 .plain Iu:=mkF [(358,.plain,Qa),(359,.plain,Ats)] ⟨Sj,A2h,trivial⟩ Tryz.func297 0
def Aay:As:=Ar [Ft] (fun d=>(Z5 d.1).val) fun r=>([rv Ft r],[])
theorem Ai2:Fn Tryz.prog 187 .plain Aay:=mkF [(297,.plain,Iu),(310,.plain,Ni)] ⟨Ji,P8,trivial⟩ Tryz.func187 0
def Awa:As:=Ar [Ft] (fun d=>(Am3 d.1).val) fun r=>([rv Ft r],[])
theorem A4c:Fn Tryz.prog 309 .plain Awa:=mkF [(53,.plain,Uy),(187,.plain,Aay)] ⟨Aax,Ai2,trivial⟩ Tryz.func309 0
def Apf:As:=Ar [g_2] (fun d=>(Adp d.1).val) fun r=>([rv Ft r.1],[rv g_2 r.2])
theorem Azi:Fn Tryz.prog 186 (.box [3] true false) Apf:=mkF [(125,(.box [3] true false),Al1),(175,(.box [3] true true),Cu),(127,(.box [3] true true),Dz),(128,(.box [3] true true),Ed),(294,(.box [3] true true),Apb),(308,(.box [3] true true),Ape),(309,.plain,Awa)] ⟨Av8,Co,Dr,D6,Azf,Azh,A4c,trivial⟩ Tryz.func186 1
def Apg:As:=Ar [g_2] (fun d=>(Adr d.1).val) fun r=>([rv g_3 r.1,rv g_0 r.2.1],[rv g_2 r.2.2])
theorem Azj:Fn Tryz.prog 298 (.box [3] true true) Apg:=mkF [(175,(.box [3] true true),Cu),(128,(.box [3] true true),Ed),(127,(.box [3] true true),Dz)] ⟨Co,D6,Dr,trivial⟩ Tryz.func298 1
def Qb:As:=Ar [g_3,g_0,g_3,g_3] (fun d=>(Adt d.1 d.2.1 d.2.2.1 d.2.2.2.1).val) fun r=>([rv g_0 r],[])
theorem Sl:Fn Tryz.prog 312 .plain Qb:=mkF [(66,.plain,Ca),(217,.plain,Od)] ⟨By,Oq,trivial⟩ Tryz.func312 0
def Al2:As:=Ar [g_0,g_0,g_3] (fun d=>(Z6 d.1 d.2.1 d.2.2.1).val) fun r=>([rv g_0 r],[])
theorem Awb:Fn Tryz.prog 405 .plain Al2:=mkF [(66,.plain,Ca),(217,.plain,Od),(319,.plain,Wp)] ⟨By,Oq,X1,trivial⟩ Tryz.func405 0
def Aph:As:=Ar [g_0,g_0,g_3] (fun d=>(Adu d.1 d.2.1 d.2.2.1).val) fun r=>([rv g_0 r],[])
theorem Azk:Fn Tryz.prog 380 .plain Aph:=Db [(66,.plain,Ca),(405,.plain,Al2)] ⟨By,Awb,trivial⟩ ⟨[(0,.v false [(.sl 5 [.int .u8],.ro)]),(1,.v false [(.sl 5 [.int .u8],.ro)]),(2,.v false [(.int .i64,.nil)]),(7,.v false [(.sl 5 [.int .u8],(.own 6000000))]),(8,.v false [(.int .i64,.nil)])],[],[6000000]⟩ 6000000 [((.exit 0),⟨[(2,.v false [(.int .i64,.nil)]),(7,.v false [(.sl 5 [.int .u8],(.own 6000000))])],[],[6000000]⟩)] 5 I6 Tryz.func380 0
def Ar3:As:=Ar [g_0,g_0,g_0] (fun d=>(Arl d.1 d.2.1 d.2.2.1).val) fun r=>([rv g_0 r],[])
theorem Awc:Fn Tryz.prog 343 .plain Ar3:=Db [(380,.plain,Aph)] ⟨Azk,trivial⟩ ⟨[(2,.v false [(.sl 5 [.int .u8],.ro)]),(7,.v false [(.sl 5 [.int .u8],(.own 7000000))]),(8,.v false [(.sl 5 [.int .u8],(.own 7000001))]),(9,.v false [(.int .i64,.nil)])],[],[7000000,7000001]⟩ 7000000 [((.exit 0),⟨[(7,.v false [(.sl 5 [.int .u8],(.own 7000000))])],[],[7000000]⟩)] 6 On Tryz.func343 0
def Jj:As:=Ar [g_3,g_4] (fun d=>(Vs d.1 d.2.1).val) fun r=>([rv g_0 r],[])
theorem Kf:Fn Tryz.prog 190 .plain Jj:=mkF [(66,.plain,Ca),(185,.plain,Nb),(86,.plain,Mo),(312,.plain,Qb)] ⟨By,P4,Na,Sl,trivial⟩ Tryz.func190 0
def Aff:As:=Ar [g_0,g_3,g_0,g_3,g_3,g_3,g_0] (fun d=>(Adw d.1 d.2.1 d.2.2.1 d.2.2.2.1 d.2.2.2.2.1 d.2.2.2.2.2.1 d.2.2.2.2.2.2.1).val) fun r=>([rv g_4 r.1,rv g_1 r.2],[])
def Afg:Fns:=[(312,.plain,Qb),(86,.plain,Mo),(307,.plain,Uw),(343,.plain,Ar3),(190,.plain,Jj),(215,.plain,Aky)]
theorem Awd:CfgOk Tryz.prog (D3 Afg):=Gn Ny Kd (show K4 Tryz.prog Afg from⟨Sl,Na,Aap,Awc,Kf,Anu,trivial⟩)
def Api:Sk:=⟨[(0,.v false [(.sl 5 [.int .u8],.ro)]),(1,.v false [(.int .i64,.nil)]),(14,.box 14 0),(17,.box 17 0),(18,.v false [(.int .i64,.nil)])],[(14,[(.int .i64,.nil),(.int .i64,.nil),(.sl 5 [.int .u8],(.own 7000000)),(.sl 5 [.int .u8],(.own 7000001)),(.int .i64,.nil),(.sl 5 [.int .u8],(.own 7000002)),(.sl 5 [.int .u8],(.own 7000003)),(.int .i64,.nil),(.int .i64,.nil),(.sl 5 [.int .u8],(.own 7000004)),(.sl 5 [.int .u8],(.own 7000005))]),(17,[(.int .i64,.nil),(.int .i64,.nil),(.sl 5 [.int .u8],(.own 7000006)),(.sl 5 [.int .u8],(.own 7000007)),(.int .i64,.nil),(.sl 5 [.int .u8],(.own 7000008)),(.sl 5 [.int .u8],(.own 7000009)),(.int .i64,.nil),(.int .i64,.nil),(.sl 5 [.int .u8],(.own 7000010)),(.sl 5 [.int .u8],(.own 7000011))])],[7000000,7000001,7000002,7000003,7000004,7000005,7000006,7000007,7000008,7000009,7000010,7000011]⟩
def Apj:List (Ex×Sk):=[((.exit 0),⟨[(0,.v false [(.sl 5 [.int .u8],.ro)]),(1,.v false [(.int .i64,.nil)]),(14,.box 14 0),(17,.box 17 0)],[(14,[(.int .i64,.nil),(.int .i64,.nil),(.sl 5 [.int .u8],(.own 7000000)),(.sl 5 [.int .u8],(.own 7000001)),(.int .i64,.nil),(.sl 5 [.int .u8],(.own 7000002)),(.sl 5 [.int .u8],(.own 7000003)),(.int .i64,.nil),(.int .i64,.nil),(.sl 5 [.int .u8],(.own 7000004)),(.sl 5 [.int .u8],(.own 7000005))]),(17,[(.int .i64,.nil),(.int .i64,.nil),(.sl 5 [.int .u8],(.own 7000006)),(.sl 5 [.int .u8],(.own 7000007)),(.int .i64,.nil),(.sl 5 [.int .u8],(.own 7000008)),(.sl 5 [.int .u8],(.own 7000009)),(.int .i64,.nil),(.int .i64,.nil),(.sl 5 [.int .u8],(.own 7000010)),(.sl 5 [.int .u8],(.own 7000011))])],[7000000,7000001,7000002,7000003,7000004,7000005,7000006,7000007,7000008,7000009,7000010,7000011]⟩)]
def Anv:Fk:=fun i st=>cond (Nat.beq i 6) (lam Api 7000000 Apj J0 st) <| .fail
theorem Azl (cx:Cx) (hp:cx.pin.length≤0):Dt Tryz.prog cx Tryz.f266.ntmps Anv (A8 Tryz.f266 0):=Fh Awd hp (Dl (by kernel_rfl:Bq (A8 Tryz.f266 0)=[]) trivial) (by kernel_rfl) (fun d=>(by kernel_rfl:bod (D3 Afg) 0 Tryz.f266.ntmps Anv (A8 Tryz.f266 0) Api 7000000 Apj d=J0 d))
theorem Ai3:Fn Tryz.prog 266 .plain Aff:=P2 Awd Tryz.func266 (by kernel_rfl) (by kernel_rfl) (fun cx b hp hb=>Dl (by kernel_rfl:Bq (Tryz.f266.body.getD .skip)=[A8 Tryz.f266 0]) ⟨Azl cx hp,trivial⟩ b hb) (fun d=>(by kernel_rfl:Hw (D3 Afg) 0 Anv Tryz.f266 .plain (mkA [g_0,g_3,g_0,g_3,g_3,g_3,g_0] d)=(Adw d.1 d.2.1 d.2.2.1 d.2.2.2.1 d.2.2.2.2.1 d.2.2.2.2.2.1 d.2.2.2.2.2.2.1).run fun r=>some ([rv g_4 r.1,rv g_1 r.2],[])))
def Apk:As:=Ar [g_2,g_0] (fun d=>(Adx d.1 d.2.1).val) fun r=>([rv g_0 r.1],[rv g_2 r.2])
theorem Azm:Fn Tryz.prog 301 (.box [3] true true) Apk:=mkF [(175,(.box [3] true true),Cu),(269,(.box [3] true true),P3)] ⟨Co,Se,trivial⟩ Tryz.func301 1
def Apl:As:=Ar [g_2,g_4] (fun d=>(Ady d.1 d.2.1).val) fun r=>([rv g_4 r.1],[rv g_2 r.2])
theorem Azn:Fn Tryz.prog 177 (.box [3] true true) Apl:=mkF [(296,.plain,Ae9),(175,(.box [3] true true),Cu),(127,(.box [3] true true),Dz),(301,(.box [3] true true),Apk)] ⟨Alr,Co,Dr,Azm,trivial⟩ Tryz.func177 1
def Ai4:As:=Ar [g_2,Do] (fun d=>(Vt d.1 d.2.1).val) fun r=>([rv g_4 r.1],[rv g_2 r.2])
theorem Au3:Fn Tryz.prog 174 (.box [3] true true) Ai4:=mkF [(298,(.box [3] true true),Apg),(167,(.box [3] true true),Gy),(299,.plain,Lk),(127,(.box [3] true true),Dz),(266,.plain,Aff),(177,(.box [3] true true),Apl)] ⟨Azj,G8,Mq,Dr,Ai3,Azn,trivial⟩ Tryz.func174 1
def Nz:As:=Ar [g_3] (fun d=>(Tx d.1).val) fun r=>([rv g_0 r],[])
theorem Ri:Fn Tryz.prog 267 .plain Nz:=mkF [(66,.plain,Ca),(217,.plain,Od)] ⟨By,Oq,trivial⟩ Tryz.func267 0
def Ai5:As:=Ar [g_2,Ft] (fun d=>(Vu d.1 d.2.1).val) fun r=>([rv g_7 r.1,rv g_4 r.2.1],[rv g_2 r.2.2])
theorem Au4:Fn Tryz.prog 126 (.box [3] true false) Ai5:=mkF [(167,(.box [3] true true),Gy),(175,(.box [3] true true),Cu),(197,.plain,Rh),(174,(.box [3] true true),Ai4),(266,.plain,Aff),(267,.plain,Nz),(268,(.box [3] true true),Aiz)] ⟨G8,Co,S2,Au3,Ai3,Ri,Apd,trivial⟩ Tryz.func126 1
def Wr:As:=Ar [g_0] (fun d=>(N8 d.1).val) fun r=>([rv Ft r.1,rv g_3 r.2.1,rv g_7 r.2.2.1,rv g_4 r.2.2.2.1,rv g_0 r.2.2.2.2],[])
theorem All:Fn Tryz.prog 51 .view Wr:=mkF [(124,.ret,Atj),(186,(.box [3] true false),Apf),(126,(.box [3] true false),Ai5),(127,(.box [3] true true),Dz),(128,(.box [3] true true),Ed)] ⟨A18,Azi,Au4,Dr,D6,trivial⟩ Tryz.func51 0
def C0:As:=Ar [g_0] (fun d=>(Aic d.1).val) fun r=>([rv g_0 r],[])
theorem Cs:Fn Tryz.prog 134 .plain C0:=mkF [] trivial Tryz.func134 0
def Aaz:As:=Ar [g_8] (fun d=>(Z8 d.1).val) fun r=>([rv g_8 r],[])
theorem Ai6:Fn Tryz.prog 381 .plain Aaz:=mkF [] trivial Tryz.func381 0
def Uz:As:=Ar [g_9] (fun d=>(Adz d.1).val) fun r=>([rv g_9 r],[])
theorem Aa0:Fn Tryz.prog 346 .plain Uz:=mkF [(134,.plain,C0),(381,.plain,Aaz)] ⟨Cs,Ai6,trivial⟩ Tryz.func346 0
def Ho:As:=Ar [Do] (fun d=>(Vw d.1).val) fun r=>([rv Do r],[])
theorem H4:Fn Tryz.prog 270 .plain Ho:=mkF [(134,.plain,C0),(346,.plain,Uz)] ⟨Cs,Aa0,trivial⟩ Tryz.func270 0
def Kg:As:=Ar [Fc] (fun d=>(Tz d.1).val) fun r=>([rv Fc r],[])
theorem Mr:Fn Tryz.prog 150 .plain Kg:=Db [(134,.plain,C0)] ⟨Cs,trivial⟩ ⟨[(2,.box 2 0),(3,.box 3 0),(10,.v false [(.sl 86 h_5,.ro)]),(11,.v false [(.int .i64,.nil)]),(12,.v false [(.int .i64,.nil)])],[(2,[(.int .i64,.nil),(.int .i64,.nil),(.sl 86 h_5,(.own 4000000))]),(3,[(.int .i64,.nil),(.int .i64,.nil),(.sl 86 h_5,(.own 4000001))])],[4000000,4000001]⟩ 4000000 [((.exit 0),⟨[(2,.box 2 0),(3,.box 3 0)],[(2,[(.int .i64,.nil),(.int .i64,.nil),(.sl 86 h_5,(.own 4000000))]),(3,[(.int .i64,.nil),(.int .i64,.nil),(.sl 86 h_5,(.own 4000001))])],[4000000,4000001]⟩)] 3 Gd Tryz.func150 0
def Ll:As:=Ar [Ft] (fun d=>(Vx d.1).val) fun r=>([rv Ft r],[])
theorem N0:Fn Tryz.prog 129 .plain Ll:=mkF [(134,.plain,C0),(270,.plain,Ho),(150,.plain,Kg)] ⟨Cs,H4,Mr,trivial⟩ Tryz.func129 0
def Cb:As:=Ar [g_3,g_3,g_3] (fun d=>(Ad0 d.1 d.2.1 d.2.2.1).val) fun r=>([rv g_1 r],[])
theorem B0:Fn Tryz.prog 95 .plain Cb:=mkF [] trivial Tryz.func95 0
def Iv:As:=Ar [g_0] (fun d=>(Aln d.1).val) fun r=>([rv g_1 r],[])
theorem Jk:Fn Tryz.prog 140 .plain Iv:=mkF [] trivial Tryz.func140 0
def Gp:As:=Ar [g_0,g_0] (fun d=>(Agt d.1 d.2.1).val) fun r=>([rv g_1 r],[])
theorem Hi:Fn Tryz.prog 143 .plain Gp:=mkF [] trivial Tryz.func143 0
def Ai7:As:=Ar [g_5,g_5] (fun d=>(Vy d.1 d.2.1).val) fun r=>([rv g_1 r],[])
theorem Au5:Fn Tryz.prog 352 .plain Ai7:=Db [] trivial ⟨[(1,.v false [(.sl 3 [.int .i64],.ro)]),(12,.v false [(.sl 3 [.int .i64],.ro)]),(13,.v false [(.int .i64,.nil)]),(14,.v false [(.int .i64,.nil)])],[],[]⟩ 5000000 [(.ret,⟨[(4,.v false [(.bool,.nil)])],[],[]⟩),((.exit 0),⟨[],[],[]⟩)] 4 Abq Tryz.func352 0
def Afh:As:=Ar [g_9,g_9] (fun d=>(Ad1 d.1 d.2.1).val) fun r=>([rv g_1 r],[])
theorem Al3:Fn Tryz.prog 280 .plain Afh:=mkF [(143,.plain,Gp),(352,.plain,Ai7)] ⟨Hi,Au5,trivial⟩ Tryz.func280 0
def Ab6:As:=Ar [Do] (fun d=>(Ra d.1).val) fun r=>([rv g_1 r],[])
theorem Apm:Fn Tryz.prog 141 .plain Ab6:=mkF [(280,.plain,Afh)] ⟨Al3,trivial⟩ Tryz.func141 0
def Qc:As:=Ar [g_3] (fun d=>(Ad2 d.1).val) fun r=>([rv g_1 r],[])
theorem Sm:Fn Tryz.prog 274 .plain Qc:=mkF [] trivial Tryz.func274 0
def Qd:As:=Ar [g_5,g_3] (fun d=>(V0 d.1 d.2.1).val) fun r=>([rv g_1 r],[])
theorem Ua:Fn Tryz.prog 384 .plain Qd:=Db [(95,.plain,Cb)] ⟨B0,trivial⟩ ⟨[(0,.v false [(.sl 3 [.int .i64],.ro)]),(1,.v false [(.int .i64,.nil)]),(7,.v false [(.sl 3 [.int .i64],.ro)]),(8,.v false [(.int .i64,.nil)]),(9,.v false [(.int .i64,.nil)])],[],[]⟩ 3000000 [(.ret,⟨[(4,.v false [(.bool,.nil)])],[],[]⟩),((.exit 0),⟨[(0,.v false [(.sl 3 [.int .i64],.ro)]),(1,.v false [(.int .i64,.nil)])],[],[]⟩)] 2 I8 Tryz.func384 0
def Afi:As:=Ar [g_8,g_3] (fun d=>(Ad3 d.1 d.2.1).val) fun r=>([rv g_1 r],[])
theorem Al4:Fn Tryz.prog 385 .plain Afi:=mkF [] trivial Tryz.func385 0
def Ai8:As:=Ar [g_8] (fun d=>(Aid d.1).val) fun r=>([rv g_1 r],[])
theorem Apn:Fn Tryz.prog 353 .plain Ai8:=Db [(95,.plain,Cb),(384,.plain,Qd),(385,.plain,Afi)] ⟨B0,Ua,Al4,trivial⟩ ⟨[(1,.box 1 0),(3,.v false [(.int .i64,.nil)])],[(1,[(.int .i64,.nil),(.sl 3 [.int .i64],.ro)])],[]⟩ 5000000 [(.ret,⟨[(2,.v false [(.bool,.nil)])],[],[]⟩),((.exit 0),⟨[(1,.box 1 0)],[(1,[(.int .i64,.nil),(.sl 3 [.int .i64],.ro)])],[]⟩)] 4 Kq Tryz.func353 0
def Ws:As:=Ar [g_9] (fun d=>(Am4 d.1).val) fun r=>([rv g_1 r],[])
theorem X3:Fn Tryz.prog 281 .plain Ws:=mkF [(95,.plain,Cb),(353,.plain,Ai8)] ⟨B0,Apn,trivial⟩ Tryz.func281 0
def Att:As:=Ar [Do] (fun d=>(Aie d.1).val) fun r=>([rv g_1 r],[])
theorem A2i:Fn Tryz.prog 282 .plain Att:=mkF [(280,.plain,Afh),(281,.plain,Ws),(95,.plain,Cb)] ⟨Al3,X3,B0,trivial⟩ Tryz.func282 0
def Gz:As:=Ar [Do] (fun d=>(Ad4 d.1).val) fun r=>([rv g_1 r],[])
theorem Ha:Fn Tryz.prog 142 .plain Gz:=mkF [(274,.plain,Qc),(140,.plain,Iv),(281,.plain,Ws),(282,.plain,Att)] ⟨Sm,Jk,X3,A2i,trivial⟩ Tryz.func142 0
def U0:As:=Ar [g_7] (fun d=>(Ad5 d.1).val) fun r=>([rv g_1 r],[])
theorem Aa1:Fn Tryz.prog 96 .plain U0:=mkF [(95,.plain,Cb)] ⟨B0,trivial⟩ Tryz.func96 0
def So:As:=Ar [Fc] (fun d=>(Sc d.1).val) fun r=>([rv g_1 r],[])
def Nj:Fns:=[(96,.plain,U0),(140,.plain,Iv),(95,.plain,Cb)]
theorem Aa2:CfgOk Tryz.prog (D3 Nj):=Gn Ny Kd (show K4 Tryz.prog Nj from⟨Aa1,Jk,B0,trivial⟩)
def Ag4:Sk:=⟨[(1,.box 1 0),(18,.v false [(.sl 86 h_5,.ro)]),(19,.v false [(.int .i64,.nil)]),(20,.v false [(.int .i64,.nil)])],[(1,[(.int .i64,.nil),(.int .i64,.nil),(.sl 86 h_5,.ro)])],[]⟩
def Ag5:List (Ex×Sk):=[(.ret,⟨[(2,.v false [(.bool,.nil)])],[],[]⟩),((.exit 0),⟨[],[],[]⟩)]
def Ag6:Sk:=⟨[(1,.box 1 0),(4,.box 4 0),(18,.v false [(.sl 86 h_5,.ro)]),(19,.v false [(.int .i64,.nil)]),(20,.v false [(.int .i64,.nil)]),(51,.v false [(.sl 86 h_5,.ro)]),(52,.v false [(.int .i64,.nil)]),(53,.v false [(.int .i64,.nil)])],[(1,[(.int .i64,.nil),(.int .i64,.nil),(.sl 86 h_5,.ro)]),(4,[(.int .i64,.nil),(.int .i64,.nil),(.sl 5 [.int .u8],.ro),(.int .i64,.nil)])],[]⟩
def Ag7:List (Ex×Sk):=[(.ret,⟨[(2,.v false [(.bool,.nil)])],[],[]⟩),((.exit 2),⟨[(1,.box 1 0),(18,.v false [(.sl 86 h_5,.ro)]),(19,.v false [(.int .i64,.nil)]),(20,.v false [(.int .i64,.nil)])],[(1,[(.int .i64,.nil),(.int .i64,.nil),(.sl 86 h_5,.ro)])],[]⟩)]
def Nk:Fk:=fun i st=>cond (Nat.beq i 9) (lam Ag6 10000000 Ag7 Gm st) <| cond (Nat.beq i 4) (lam Ag4 5000000 Ag5 H1 st) <| .fail
theorem Ar4 (cx:Cx) (hp:cx.pin.length≤0):Dt Tryz.prog cx Tryz.f144.ntmps Nk (A8 Tryz.f144 1):=Fh Aa2 hp (Dl (by kernel_rfl:Bq (A8 Tryz.f144 1)=[]) trivial) (by kernel_rfl) (fun d=>(by kernel_rfl:bod (D3 Nj) 0 Tryz.f144.ntmps Nk (A8 Tryz.f144 1) Ag6 10000000 Ag7 d=Gm d))
theorem Ar5 (cx:Cx) (hp:cx.pin.length≤0):Dt Tryz.prog cx Tryz.f144.ntmps Nk (A8 Tryz.f144 0):=Fh Aa2 hp (Dl (by kernel_rfl:Bq (A8 Tryz.f144 0)=[A8 Tryz.f144 1]) ⟨Ar4 cx hp,trivial⟩) (by kernel_rfl) (fun d=>(by kernel_rfl:bod (D3 Nj) 0 Tryz.f144.ntmps Nk (A8 Tryz.f144 0) Ag4 5000000 Ag5 d=H1 d))
theorem Wt:Fn Tryz.prog 144 .plain So:=P2 Aa2 Tryz.func144 (by kernel_rfl) (by kernel_rfl) (fun cx b hp hb=>Dl (by kernel_rfl:Bq (Tryz.f144.body.getD .skip)=[A8 Tryz.f144 0]) ⟨Ar5 cx hp,trivial⟩ b hb) (fun d=>(by kernel_rfl:Hw (D3 Nj) 0 Nk Tryz.f144 .plain (mkA [Fc] d)=(Sc d.1).run fun r=>some ([rv g_1 r],[])))
def Ms:As:=Ar [Ft] (fun d=>(Ad6 d.1).val) fun r=>([rv g_1 r],[])
theorem Nl:Fn Tryz.prog 29 .plain Ms:=mkF [(95,.plain,Cb),(140,.plain,Iv),(141,.plain,Ab6),(142,.plain,Gz),(143,.plain,Gp),(144,.plain,So)] ⟨B0,Jk,Apm,Ha,Hi,Wt,trivial⟩ Tryz.func29 0
def Qe:As:=Ar [g_3] (fun d=>(Ad7 d.1).val) fun r=>([rv g_1 r],[])
theorem Sp:Fn Tryz.prog 101 .plain Qe:=mkF [(95,.plain,Cb)] ⟨B0,trivial⟩ Tryz.func101 0
def Apo:As:=Ar [g_3,g_3] (fun d=>(Ad8 d.1 d.2.1).val) fun r=>([rv g_1 r],[])
theorem Azo:Fn Tryz.prog 283 .plain Apo:=mkF [] trivial Tryz.func283 0
def Ag8:As:=Ar [g_4,g_4] (fun d=>(T0 d.1 d.2.1).val) fun r=>([rv g_1 r],[])
theorem Ar6:Fn Tryz.prog 163 .plain Ag8:=mkF [(143,.plain,Gp)] ⟨Hi,trivial⟩ Tryz.func163 0
def Sq:As:=Ar [g_4] (fun d=>(Z9 d.1).val) fun r=>([rv g_1 r],[])
theorem Wu:Fn Tryz.prog 145 .plain Sq:=mkF [(95,.plain,Cb),(140,.plain,Iv),(101,.plain,Qe),(283,.plain,Apo),(163,.plain,Ag8)] ⟨B0,Jk,Sp,Azo,Ar6,trivial⟩ Tryz.func145 0
def Anw:As:=Ar [g_0,g_0] (fun d=>(Am5 d.1 d.2.1).val) fun r=>([rv g_3 r],[])
theorem Atu:Fn Tryz.prog 271 .plain Anw:=Db [] trivial ⟨[(0,.v false [(.sl 5 [.int .u8],.ro)]),(1,.v false [(.sl 5 [.int .u8],.ro)]),(5,.v false [(.int .i64,.nil)]),(13,.v false [(.int .i64,.nil)]),(14,.v false [(.int .i64,.nil)])],[],[]⟩ 6000000 [((.exit 0),⟨[(5,.v false [(.int .i64,.nil)])],[],[]⟩)] 5 Pp Tryz.func271 0
def App:As:=Ar [] (fun d=>(Aea).val) fun r=>([rv g_8 r],[])
theorem Azp:Fn Tryz.prog 347 .plain App:=mkF [] trivial Tryz.func347 0
def Ai9:As:=Ar [g_3,g_0] (fun d=>(Xo d.1 d.2.1).val) fun r=>([rv g_9 r],[])
theorem Apq:Fn Tryz.prog 272 .plain Ai9:=mkF [(95,.plain,Cb),(134,.plain,C0),(347,.plain,App)] ⟨B0,Cs,Azp,trivial⟩ Tryz.func272 0
def Rj:As:=Ar [g_0,g_3,g_3] (fun d=>(Avx d.1 d.2.1 d.2.2.1).val) fun r=>([rv g_0 r],[])
theorem S5:Fn Tryz.prog 328 .plain Rj:=Db [] trivial ⟨[(1,.v false [(.int .i64,.nil)]),(7,.v false [(.sl 5 [.int .u8],(.own 6000000))]),(8,.v false [(.int .i64,.nil)])],[],[6000000]⟩ 6000000 [((.exit 0),⟨[(7,.v false [(.sl 5 [.int .u8],(.own 6000000))])],[],[6000000]⟩)] 5 Ao0 Tryz.func328 0
def Ia:As:=Ar [A9v] (fun d=>(Aeb d.1).val) fun r=>([rv g_0 r],[])
theorem Iw:Fn Tryz.prog 275 .plain Ia:=Db [] trivial ⟨[(3,.v false [(.sl 5 [.int .u8],(.own 4000000))]),(7,.v false [(.sl 23 [.sl 5 [.int .u8]],.ro)]),(8,.v false [(.int .i64,.nil)]),(9,.v false [(.int .i64,.nil)])],[],[4000000]⟩ 4000000 [((.exit 0),⟨[(3,.v false [(.sl 5 [.int .u8],(.own 4000000))])],[],[4000000]⟩)] 3 I9 Tryz.func275 0
def U1:As:=Ar [g_3,g_0,g_3,g_3] (fun d=>(Aec d.1 d.2.1 d.2.2.1 d.2.2.2.1).val) fun r=>([rv g_0 r],[])
theorem Aa3:Fn Tryz.prog 276 .plain U1:=mkF [(274,.plain,Qc),(140,.plain,Iv),(95,.plain,Cb),(328,.plain,Rj),(275,.plain,Ia)] ⟨Sm,Jk,B0,S5,Iw,trivial⟩ Tryz.func276 0
def Jl:As:=Ar [g_3,g_4] (fun d=>(V2 d.1 d.2.1).val) fun r=>([rv g_0 r],[])
theorem Kh:Fn Tryz.prog 133 .plain Jl:=mkF [(274,.plain,Qc),(101,.plain,Qe),(145,.plain,Sq),(276,.plain,U1),(275,.plain,Ia)] ⟨Sm,Sp,Wu,Aa3,Iw,trivial⟩ Tryz.func133 0
def Apr:As:=Ar [g_8,g_3] (fun d=>(Aed d.1 d.2.1).val) fun r=>([rv g_1 r],[])
theorem Azq:Fn Tryz.prog 382 .plain Apr:=mkF [(353,.plain,Ai8),(95,.plain,Cb),(385,.plain,Afi)] ⟨Apn,B0,Al4,trivial⟩ Tryz.func382 0
def Aps:As:=Ar [g_8,g_3] (fun d=>(Aef d.1 d.2.1).val) fun r=>([rv g_8 r.1,rv g_1 r.2],[])
theorem Azr:Fn Tryz.prog 348 .plain Aps:=Db [(381,.plain,Aaz),(382,.plain,Apr)] ⟨Ai6,Azq,trivial⟩ ⟨[(1,.v false [(.int .i64,.nil)]),(2,.box 2 0),(4,.box 4 0),(6,.box 6 0),(7,.v false [(.int .i64,.nil)])],[(2,[(.int .i64,.nil),(.sl 3 [.int .i64],.ro)]),(4,[(.int .i64,.nil),(.sl 3 [.int .i64],(.own 6000000))]),(6,[(.int .i64,.nil),(.sl 3 [.int .i64],(.own 6000001))])],[6000000,6000001]⟩ 6000000 [((.exit 0),⟨[(1,.v false [(.int .i64,.nil)]),(2,.box 2 0),(4,.box 4 0),(6,.box 6 0)],[(2,[(.int .i64,.nil),(.sl 3 [.int .i64],.ro)]),(4,[(.int .i64,.nil),(.sl 3 [.int .i64],(.own 6000000))]),(6,[(.int .i64,.nil),(.sl 3 [.int .i64],(.own 6000001))])],[6000000,6000001]⟩)] 5 Ja Tryz.func348 0
def Atv:As:=Ar [] (fun d=>(Ath).val) fun r=>([rv g_5 r],[])
theorem A2j:Fn Tryz.prog 427 .plain Atv:=mkF [] trivial Tryz.func427 0
def Al5:As:=Ar [] (fun d=>(Alo).val) fun r=>([rv Avy r],[])
theorem Awe:Fn Tryz.prog 417 .plain Al5:=mkF [(427,.plain,Atv)] ⟨A2j,trivial⟩ Tryz.func417 0
def Afj:As:=Ar [Avy] (fun d=>(Aeh d.1).val) fun r=>([rv g_1 r],[])
theorem Al6:Fn Tryz.prog 423 .plain Afj:=mkF [(384,.plain,Qd),(95,.plain,Cb)] ⟨Ua,B0,trivial⟩ Tryz.func423 0
def A05:As:=Ar [g_0,g_3,g_3] (fun d=>(Arm d.1 d.2.1 d.2.2.1).val) fun r=>([rv g_0 r.1,rv g_1 r.2],[])
theorem A60:Fn Tryz.prog 374 .plain A05:=mkF [] trivial Tryz.func374 0
def Awf:As:=Ar [g_0,g_3,g_3] (fun d=>(Am6 d.1 d.2.1 d.2.2.1).val) fun r=>([rv g_3 r.1,rv g_3 r.2.1,rv g_1 r.2.2],[])
theorem A4d:Fn Tryz.prog 327 .plain Awf:=Db [(374,.plain,A05)] ⟨A60,trivial⟩ ⟨[(1,.v false [(.int .i64,.nil)]),(2,.v false [(.int .i64,.nil)]),(11,.v false [(.int .i64,.nil)]),(29,.v false [(.sl 5 [.int .u8],(.own 9000000))]),(30,.v false [(.int .i64,.nil)]),(31,.v false [(.int .i64,.nil)])],[],[9000000]⟩ 9000000 [((.exit 0),⟨[(1,.v false [(.int .i64,.nil)]),(2,.v false [(.int .i64,.nil)]),(11,.v false [(.int .i64,.nil)])],[],[]⟩)] 8 Mk Tryz.func327 0
def Ar7:As:=Ar [g_3,g_3] (fun d=>(Aro d.1 d.2.1).val) fun r=>([rv g_3 r],[])
theorem Awg:Fn Tryz.prog 431 .plain Ar7:=mkF [] trivial Tryz.func431 0
def Aja:As:=Ar [g_0] (fun d=>(Pr d.1).val) fun r=>([rv g_5 r],[])
def Lm:Fns:=[(327,.plain,Awf),(431,.plain,Ar7)]
theorem Wv:CfgOk Tryz.prog (D3 Lm):=Gn Ny Kd (show K4 Tryz.prog Lm from⟨A4d,Awg,trivial⟩)
def Ab7:Sk:=⟨[(3,.v false [(.sl 3 [.int .i64],(.own 10000000))]),(5,.v false [(.int .i64,.nil)])],[],[10000000]⟩
def Ab8:List (Ex×Sk):=[((.exit 2),⟨[(3,.v false [(.sl 3 [.int .i64],(.own 10000000))])],[],[10000000]⟩)]
def Ab9:Sk:=⟨[(0,.v false [(.sl 5 [.int .u8],.ro)]),(3,.v false [(.sl 3 [.int .i64],(.own 6000000))]),(4,.v false [(.int .i64,.nil)])],[],[6000000]⟩
def Aca:List (Ex×Sk):=[((.exit 0),⟨[(3,.v false [(.sl 3 [.int .i64],(.own 6000000))])],[],[6000000]⟩)]
def Ln:Fk:=fun i st=>cond (Nat.beq i 5) (lam Ab9 6000000 Aca He st) <| cond (Nat.beq i 9) (lam Ab7 10000000 Ab8 Hf st) <| .fail
theorem Apt (cx:Cx) (hp:cx.pin.length≤0):Dt Tryz.prog cx Tryz.f430.ntmps Ln (A8 Tryz.f430 0):=Fh Wv hp (Dl (by kernel_rfl:Bq (A8 Tryz.f430 0)=[]) trivial) (by kernel_rfl) (fun d=>(by kernel_rfl:bod (D3 Lm) 0 Tryz.f430.ntmps Ln (A8 Tryz.f430 0) Ab9 6000000 Aca d=He d))
theorem Apu (cx:Cx) (hp:cx.pin.length≤0):Dt Tryz.prog cx Tryz.f430.ntmps Ln (A8 Tryz.f430 1):=Fh Wv hp (Dl (by kernel_rfl:Bq (A8 Tryz.f430 1)=[]) trivial) (by kernel_rfl) (fun d=>(by kernel_rfl:bod (D3 Lm) 0 Tryz.f430.ntmps Ln (A8 Tryz.f430 1) Ab7 10000000 Ab8 d=Hf d))
theorem Au6:Fn Tryz.prog 430 .plain Aja:=P2 Wv Tryz.func430 (by kernel_rfl) (by kernel_rfl) (fun cx b hp hb=>Dl (by kernel_rfl:Bq (Tryz.f430.body.getD .skip)=[A8 Tryz.f430 0,A8 Tryz.f430 1]) ⟨Apt cx hp,Apu cx hp,trivial⟩ b hb) (fun d=>(by kernel_rfl:Hw (D3 Lm) 0 Ln Tryz.f430 .plain (mkA [g_0] d)=(Pr d.1).run fun r=>some ([rv g_5 r],[])))
theorem A4e (n:Int) (w:World) (h0:0≤n) (h1:n≤63):
  Calls Tryz.prog 432 #[.int .i64 n] w (Ret w (.int .i64 (Nm[n.toNat]?.getD 0))):=by
 have hx: ∃x,Nm[n.toNat]? =some x:=⟨_,List.getElem?_eq_getElem (by simp[Nm];omega)⟩
 obtain⟨x,hx⟩:=hx
 have hcell:(Ajb 358 w Apv).cell? ⟨w.heap.size,n.toNat,none⟩=some (.int .i64 x):=by
  rw[Azs];unfold Apv;rw[List.getElem?_toArray,List.getElem?_map,hx];rfl
 rw[hx]
 go_enter Tryz.func432,Tryz.ntmps432
 go_wp2_with (first|(refine Au7 rfl 358 _ rfl Apv (by kernel_rfl) ?_)|(refine Au8 rfl 358 rfl _ _ Apw (by kernel_rfl) (by kernel_rfl) (by kernel_rfl) ?_)|(refine Au9 rfl 358 _ _ rfl Apv rfl rfl (by kernel_rfl) (by kernel_rfl) (by kernel_rfl) ?_))
 go_ret
 refine Ret.mk rfl ?_
 rw[A4f]
 exact(Cg.refl _).alloc _
theorem A4g (n:Int) (w:World) (h0: ¬(0≤n∧n≤63)):
  Calls Tryz.prog 432 #[.int .i64 n] w (Ret w (.int .i64 0)):=by
 by_cases h:n<0
 ·go_enter Tryz.func432,Tryz.ntmps432
  go_wp2_with fail
  go_ret
  exact Ret.mk rfl (Cg.refl _)
 ·have h2:63<n:=by omega
  go_enter Tryz.func432,Tryz.ntmps432
  go_wp2_with fail
  go_ret
  exact Ret.mk rfl (Cg.refl _)
def Ava:List (Bool×List Sh):=[(false,[.int .i64])]
def Avb (r:YI):List RV×List RV:=([rv (false,[.int .i64]) r],[])
def Ag9:As:=Ar Ava (fun d=>(Agu d.1).val) Avb
theorem Ar8:Fn Tryz.prog 432 .plain Ag9:=by
 refine⟨?_,Tryz.f432,Tryz.func432,by kernel_rfl,by kernel_rfl⟩
 intro rs res vals w G hv hG hr
 obtain⟨d,x,rfl,h1,h2⟩:=Awh hv
 obtain⟨⟨n,_⟩,_⟩:=d
 cases h1
 subst h2
 match vals,hr with
 |[v],hr=>
  have e:v= .int .i64 n:=hr.1.1.1
  subst e
  refine(?_:Calls Tryz.prog 432 #[.int .i64 n] w (Ret w (.int .i64 (Sz n)))).mono fun e w' h=>A4h (A4i n) h
  unfold Sz
  by_cases h:0≤n∧n≤63
  ·rw[if_pos h];exact A4e n w h.1 h.2
  ·rw[if_neg h];exact A4g n w h

def Atw:As:=Ar [g_3,g_3] (fun d=>(Ati d.1 d.2.1).val) fun r=>([rv g_3 r],[])
theorem A2k:Fn Tryz.prog 433 .plain Atw:=mkF [] trivial Tryz.func433 0
def Ajc:As:=Ar [g_5,g_0] (fun d=>(Ps d.1 d.2.1).val) fun r=>([rv g_5 r],[])
def Lo:Fns:=[(384,.plain,Qd),(430,.plain,Aja),(431,.plain,Ar7),(432,.plain,Ag9),(433,.plain,Atw)]
theorem Ww:CfgOk Tryz.prog (D3 Lo):=Gn Ny Kd (show K4 Tryz.prog Lo from⟨Ua,Au6,Awg,Ar8,A2k,trivial⟩)
def X4:Sk:=⟨[(0,.v false [(.sl 3 [.int .i64],.ro)]),(5,.v false [(.sl 3 [.int .i64],(.own 17000000))]),(133,.v false [(.sl 3 [.int .i64],(.own 17000001))]),(134,.v false [(.int .i64,.nil)]),(135,.v false [(.int .i64,.nil)])],[],[17000000,17000001]⟩
def X5:List (Ex×Sk):=[((.exit 2),⟨[(5,.v false [(.sl 3 [.int .i64],(.own 17000000))])],[],[17000000]⟩)]
def Acb:Sk:=⟨[(0,.v false [(.sl 3 [.int .i64],.ro)]),(5,.v false [(.sl 3 [.int .i64],(.own 8000000))]),(6,.v false [(.sl 3 [.int .i64],(.own 8000001))]),(7,.v false [(.int .i64,.nil)]),(8,.v false [(.int .i64,.nil)]),(9,.v false [(.int .i64,.nil)]),(10,.v false [(.int .i64,.nil)]),(11,.v false [(.int .i64,.nil)]),(12,.v false [(.int .i64,.nil)]),(13,.v false [(.int .i64,.nil)]),(14,.v false [(.int .i64,.nil)]),(15,.v false [(.int .i64,.nil)])],[],[8000000,8000001]⟩
def Acc:List (Ex×Sk):=[((.exit 0),⟨[(0,.v false [(.sl 3 [.int .i64],.ro)]),(5,.v false [(.sl 3 [.int .i64],(.own 8000000))]),(7,.v false [(.int .i64,.nil)]),(8,.v false [(.int .i64,.nil)]),(9,.v false [(.int .i64,.nil)]),(10,.v false [(.int .i64,.nil)]),(11,.v false [(.int .i64,.nil)]),(12,.v false [(.int .i64,.nil)]),(13,.v false [(.int .i64,.nil)]),(14,.v false [(.int .i64,.nil)])],[],[8000000]⟩)]
def Lp:Fk:=fun i st=>cond (Nat.beq i 7) (lam Acb 8000000 Acc Fs st) <| cond (Nat.beq i 16) (lam X4 17000000 X5 Fa st) <| .fail
theorem Apx (cx:Cx) (hp:cx.pin.length≤0):Dt Tryz.prog cx Tryz.f429.ntmps Lp (A8 Tryz.f429 0):=Fh Ww hp (Dl (by kernel_rfl:Bq (A8 Tryz.f429 0)=[]) trivial) (by kernel_rfl) (fun d=>(by kernel_rfl:bod (D3 Lo) 0 Tryz.f429.ntmps Lp (A8 Tryz.f429 0) Acb 8000000 Acc d=Fs d))
theorem Anx (cx:Cx) (hp:cx.pin.length≤0):Dt Tryz.prog cx Tryz.f429.ntmps Lp (A8 Tryz.f429 1):=Fh Ww hp (Dl (by kernel_rfl:Bq (A8 Tryz.f429 1)=[]) trivial) (by kernel_rfl) (fun d=>(by kernel_rfl:bod (D3 Lo) 0 Tryz.f429.ntmps Lp (A8 Tryz.f429 1) X4 17000000 X5 d=Fa d))
theorem Avc:Fn Tryz.prog 429 .plain Ajc:=P2 Ww Tryz.func429 (by kernel_rfl) (by kernel_rfl) (fun cx b hp hb=>Dl (by kernel_rfl:Bq (Tryz.f429.body.getD .skip)=[A8 Tryz.f429 0,A8 Tryz.f429 1]) ⟨Apx cx hp,Anx cx hp,trivial⟩ b hb) (fun d=>(by kernel_rfl:Hw (D3 Lo) 0 Lp Tryz.f429 .plain (mkA [g_5,g_0] d)=(Ps d.1 d.2.1).run fun r=>some ([rv g_5 r],[])))
def Qf:As:=Ar [g_5,g_0] (fun d=>(Pt d.1 d.2.1).val) fun r=>([rv g_5 r.1,rv g_0 r.2],[])
theorem Wx:Fn Tryz.prog 424 .view Qf:=Db [(429,.plain,Ajc)] ⟨Avc,trivial⟩ ⟨[(0,.v false [(.sl 3 [.int .i64],.rd)]),(1,.v false [(.sl 5 [.int .u8],.ro)])],[],[]⟩ 2000000 [((.exit 0),⟨[(0,.v false [(.sl 3 [.int .i64],.rd)]),(1,.v false [(.sl 5 [.int .u8],.ro)])],[],[]⟩)] 1 Ej Tryz.func424 0
def Al7:As:=Ar [Avy,g_0] (fun d=>(Aaa d.1 d.2.1).val) fun r=>([rv Avy r],[])
theorem Awi:Fn Tryz.prog 416 .plain Al7:=mkF [(423,.plain,Afj),(134,.plain,C0),(275,.plain,Ia),(424,.view,Qf)] ⟨Al6,Cs,Iw,Wx,trivial⟩ Tryz.func416 0
def A06:As:=Ar [g_3] (fun d=>(Arp d.1).val) fun r=>([rv g_0 r],[])
theorem A61:Fn Tryz.prog 425 .plain A06:=Db [(95,.plain,Cb),(328,.plain,Rj)] ⟨B0,S5,trivial⟩ ⟨[(0,.v false [(.int .i64,.nil)]),(3,.v false [(.sl 5 [.int .u8],(.own 5000000))])],[],[5000000]⟩ 5000000 [((.exit 0),⟨[(0,.v false [(.int .i64,.nil)]),(3,.v false [(.sl 5 [.int .u8],(.own 5000000))])],[],[5000000]⟩)] 4 Lc Tryz.func425 0
def Aha:As:=Ar [g_5] (fun d=>(T1 d.1).val) fun r=>([rv g_0 r],[])
theorem Ar9:Fn Tryz.prog 426 .plain Aha:=Db [(328,.plain,Rj)] ⟨S5,trivial⟩ ⟨[(3,.v false [(.sl 5 [.int .u8],(.own 4000000))]),(7,.v false [(.sl 3 [.int .i64],.ro)]),(8,.v false [(.int .i64,.nil)]),(9,.v false [(.int .i64,.nil)])],[],[4000000]⟩ 4000000 [((.exit 0),⟨[(3,.v false [(.sl 5 [.int .u8],(.own 4000000))])],[],[4000000]⟩)] 3 Ge Tryz.func426 0
def Al8:As:=Ar [Avy] (fun d=>(Aac d.1).val) fun r=>([rv g_0 r],[])
theorem Awj:Fn Tryz.prog 415 .plain Al8:=mkF [(423,.plain,Afj),(425,.plain,A06),(275,.plain,Ia),(424,.view,Qf),(426,.plain,Aha)] ⟨Al6,A61,Iw,Wx,Ar9,trivial⟩ Tryz.func415 0
def Asa:As:=Ar [g_0] (fun d=>(Arr d.1).val) fun r=>([rv g_0 r],[])
theorem Awk:Fn Tryz.prog 401 .plain Asa:=mkF [(417,.plain,Al5),(416,.plain,Al7),(415,.plain,Al8)] ⟨Awe,Awi,Awj,trivial⟩ Tryz.func401 0
def Ajd:As:=Ar [g_0] (fun d=>(V4 d.1).val) fun r=>([rv g_0 r],[])
theorem Avd:Fn Tryz.prog 400 .plain Ajd:=Db [(134,.plain,C0),(401,.plain,Asa)] ⟨Cs,Awk,trivial⟩ ⟨[(3,.v false [(.sl 5 [.int .u8],(.own 7000000))])],[],[7000000]⟩ 7000000 [((.exit 0),⟨[(3,.v false [(.sl 5 [.int .u8],(.own 7000000))])],[],[7000000]⟩)] 6 Eu Tryz.func400 0
def Apy:As:=Ar [g_0,Ba9] (fun d=>(Aei d.1 d.2.1).val) fun r=>([rv g_0 r],[])
theorem Azt:Fn Tryz.prog 402 .plain Apy:=Db [] trivial ⟨[(1,.v false [(.int .u8,.nil)]),(5,.v false [(.sl 5 [.int .u8],(.own 4000000))]),(9,.v false [(.sl 5 [.int .u8],.ro)]),(10,.v false [(.int .i64,.nil)]),(11,.v false [(.int .i64,.nil)])],[],[4000000]⟩ 4000000 [((.exit 0),⟨[(5,.v false [(.sl 5 [.int .u8],(.own 4000000))])],[],[4000000]⟩)] 3 Jb Tryz.func402 0
def Afk:As:=Ar [g_0,g_0] (fun d=>(Am8 d.1 d.2.1).val) fun r=>([rv g_0 r],[])
theorem Aje:Fn Tryz.prog 375 .plain Afk:=mkF [(400,.plain,Ajd),(402,.plain,Apy),(275,.plain,Ia),(401,.plain,Asa)] ⟨Avd,Azt,Iw,Awk,trivial⟩ Tryz.func375 0
def Asb:As:=Ar [g_0,g_0] (fun d=>(Ars d.1 d.2.1).val) fun r=>([rv g_0 r],[])
theorem Awl:Fn Tryz.prog 330 .plain Asb:=mkF [(375,.plain,Afk),(134,.plain,C0)] ⟨Aje,Cs,trivial⟩ Tryz.func330 0
def Al9:As:=Ar [g_0,g_0] (fun d=>(Aae d.1 d.2.1).val) fun r=>([rv g_1 r],[])
theorem Awm:Fn Tryz.prog 333 .plain Al9:=mkF [(271,.plain,Anw)] ⟨Atu,trivial⟩ Tryz.func333 0
def Ama:As:=Ar [g_0,g_0,g_3] (fun d=>(Aag d.1 d.2.1 d.2.2.1).val) fun r=>([rv g_0 r],[])
theorem Awn:Fn Tryz.prog 420 .plain Ama:=mkF [(95,.plain,Cb),(275,.plain,Ia),(328,.plain,Rj),(375,.plain,Afk)] ⟨B0,Iw,S5,Aje,trivial⟩ Tryz.func420 0
def Apz:As:=Ar [g_0,g_0,g_3] (fun d=>(Aej d.1 d.2.1 d.2.2.1).val) fun r=>([rv g_0 r],[])
theorem Azu:Fn Tryz.prog 406 .plain Apz:=Db [(95,.plain,Cb),(420,.plain,Ama),(134,.plain,C0)] ⟨B0,Awn,Cs,trivial⟩ ⟨[(0,.v false [(.sl 5 [.int .u8],.ro)]),(1,.v false [(.sl 5 [.int .u8],.ro)]),(2,.v false [(.int .i64,.nil)]),(7,.v false [(.sl 5 [.int .u8],(.own 6000000))]),(8,.v false [(.int .i64,.nil)])],[],[6000000]⟩ 6000000 [((.exit 0),⟨[(2,.v false [(.int .i64,.nil)]),(7,.v false [(.sl 5 [.int .u8],(.own 6000000))])],[],[6000000]⟩)] 5 Jc Tryz.func406 0
def Asc:As:=Ar [g_0,g_0,g_0] (fun d=>(Art d.1 d.2.1 d.2.2.1).val) fun r=>([rv g_0 r],[])
theorem Awo:Fn Tryz.prog 383 .plain Asc:=Db [(406,.plain,Apz)] ⟨Azu,trivial⟩ ⟨[(2,.v false [(.sl 5 [.int .u8],.ro)]),(7,.v false [(.sl 5 [.int .u8],(.own 6000000))]),(28,.v false [(.sl 5 [.int .u8],(.own 6000001))]),(29,.v false [(.int .i64,.nil)]),(30,.v false [(.int .i64,.nil)])],[],[6000000,6000001]⟩ 6000000 [((.exit 0),⟨[(7,.v false [(.sl 5 [.int .u8],(.own 6000000))])],[],[6000000]⟩)] 5 Oo Tryz.func383 0
def Ap0:As:=Ar [g_0,g_3,g_4] (fun d=>(Ael d.1 d.2.1 d.2.2.1).val) fun r=>([rv g_0 r.1,rv g_1 r.2],[])
theorem Azv:Fn Tryz.prog 349 .plain Ap0:=mkF [(133,.plain,Jl),(330,.plain,Asb),(333,.plain,Al9),(276,.plain,U1),(383,.plain,Asc)] ⟨Kh,Awl,Awm,Aa3,Awo,trivial⟩ Tryz.func349 0
def Ap1:As:=Ar [g_9,g_3,g_4] (fun d=>(Aen d.1 d.2.1 d.2.2.1).val) fun r=>([rv g_9 r.1,rv g_0 r.2.1,rv g_3 r.2.2],[])
theorem Azw:Fn Tryz.prog 273 .plain Ap1:=mkF [(346,.plain,Uz),(281,.plain,Ws),(133,.plain,Jl),(348,.plain,Aps),(349,.plain,Ap0)] ⟨Aa0,X3,Kh,Azr,Azv,trivial⟩ Tryz.func273 0
def Ajf:As:=Ar [Do,g_3,g_4] (fun d=>(V7 d.1 d.2.1 d.2.2.1).val) fun r=>([rv Do r.1,rv g_0 r.2.1,rv g_3 r.2.2],[])
theorem Ave:Fn Tryz.prog 130 .plain Ajf:=mkF [(270,.plain,Ho),(142,.plain,Gz),(95,.plain,Cb),(101,.plain,Qe),(145,.plain,Sq),(271,.plain,Anw),(272,.plain,Ai9),(273,.plain,Ap1)] ⟨H4,Ha,B0,Sp,Wu,Atu,Apq,Azw,trivial⟩ Tryz.func130 0
def Ap2:As:=Ar [Do,g_3] (fun d=>(Aeo d.1 d.2.1).val) fun r=>([rv g_0 r.1,rv g_1 r.2],[])
theorem Azx:Fn Tryz.prog 131 .plain Ap2:=mkF [(142,.plain,Gz),(134,.plain,C0)] ⟨Ha,Cs,trivial⟩ Tryz.func131 0
def Awp:As:=Ar [g_0,g_0,g_0] (fun d=>(Am9 d.1 d.2.1 d.2.2.1).val) fun r=>([rv Aih r],[])
theorem A4j:Fn Tryz.prog 132 .plain Awp:=mkF [(134,.plain,C0)] ⟨Cs,trivial⟩ Tryz.func132 0
def Afl:As:=Ar [Fc,g_7] (fun d=>(Aep d.1 d.2.1).val) fun r=>([rv g_3 r],[])
theorem Amb:Fn Tryz.prog 149 .plain Afl:=Db [] trivial ⟨[(3,.box 3 0),(8,.v false [(.sl 86 h_5,.ro)]),(9,.v false [(.int .i64,.nil)]),(10,.v false [(.int .i64,.nil)])],[(3,[(.int .i64,.nil),(.int .i64,.nil)])],[]⟩ 3000000 [(.ret,⟨[(4,.v false [(.int .i64,.nil)])],[],[]⟩),((.exit 0),⟨[],[],[]⟩)] 2 Le Tryz.func149 0
def Ap3:As:=Ar [Fc,g_3,g_7,g_0] (fun d=>(Aeq d.1 d.2.1 d.2.2.1 d.2.2.2.1).val) fun r=>([rv Fc r.1,rv g_1 r.2],[])
theorem Azy:Fn Tryz.prog 135 .plain Ap3:=mkF [(150,.plain,Kg),(149,.plain,Afl),(144,.plain,So),(95,.plain,Cb),(143,.plain,Gp)] ⟨Mr,Amb,Wt,B0,Hi,trivial⟩ Tryz.func135 0
def Ub:As:=Ar [g_3] (fun d=>(T3 d.1).val) fun r=>([rv g_0 r],[])
theorem Acd:Fn Tryz.prog 293 .plain Ub:=mkF [(95,.plain,Cb),(328,.plain,Rj)] ⟨B0,S5,trivial⟩ Tryz.func293 0
def Ap4:As:=Ar [g_0,g_0,g_3] (fun d=>(Aer d.1 d.2.1 d.2.2.1).val) fun r=>([rv g_0 r.1,rv g_1 r.2],[])
theorem Azz:Fn Tryz.prog 356 .plain Ap4:=Db [(95,.plain,Cb),(275,.plain,Ia),(375,.plain,Afk),(134,.plain,C0)] ⟨B0,Iw,Aje,Cs,trivial⟩ ⟨[(0,.v false [(.sl 5 [.int .u8],.ro)]),(1,.v false [(.sl 5 [.int .u8],.ro)]),(2,.v false [(.int .i64,.nil)]),(8,.v false [(.sl 5 [.int .u8],(.own 7000000))]),(9,.v false [(.sl 5 [.int .u8],(.own 7000001))]),(10,.v false [(.int .i64,.nil)])],[],[7000000,7000001]⟩ 7000000 [((.exit 0),⟨[(2,.v false [(.int .i64,.nil)]),(8,.v false [(.sl 5 [.int .u8],(.own 7000000))])],[],[7000000]⟩)] 6 Je Tryz.func356 0
def Ap5:As:=Ar [g_0,g_6] (fun d=>(Aet d.1 d.2.1).val) fun r=>([rv g_0 r],[])
theorem Az0:Fn Tryz.prog 292 .plain Ap5:=mkF [(356,.plain,Ap4)] ⟨Azz,trivial⟩ Tryz.func292 0
def Awq:As:=Ar [Do] (fun d=>(Anb d.1).val) fun r=>([rv Do r.1,rv g_1 r.2],[])
theorem A4k:Fn Tryz.prog 350 .plain Awq:=mkF [(270,.plain,Ho),(142,.plain,Gz),(292,.plain,Ap5),(272,.plain,Ai9)] ⟨H4,Ha,Az0,Apq,trivial⟩ Tryz.func350 0
def Ahb:As:=Ar [Do,g_3,g_0] (fun d=>(T4 d.1 d.2.1 d.2.2.1).val) fun r=>([rv Do r.1,rv g_3 r.2],[])
theorem Asd:Fn Tryz.prog 277 .plain Ahb:=mkF [(270,.plain,Ho),(142,.plain,Gz),(95,.plain,Cb),(293,.plain,Ub),(143,.plain,Gp),(350,.plain,Awq)] ⟨H4,Ha,B0,Acd,Hi,A4k,trivial⟩ Tryz.func277 0
def Awr:As:=Ar [g_0,g_3,g_0,g_3,g_3,g_3,g_0] (fun d=>(Ane d.1 d.2.1 d.2.2.1 d.2.2.2.1 d.2.2.2.2.1 d.2.2.2.2.2.1 d.2.2.2.2.2.2.1).val) fun r=>([rv g_4 r.1,rv g_1 r.2],[])
theorem A4l:Fn Tryz.prog 351 .plain Awr:=mkF [(134,.plain,C0),(274,.plain,Qc),(101,.plain,Qe),(145,.plain,Sq),(276,.plain,U1),(383,.plain,Asc),(133,.plain,Jl),(330,.plain,Asb)] ⟨Cs,Sm,Sp,Wu,Aa3,Awo,Kh,Awl,trivial⟩ Tryz.func351 0
def Ap6:As:=Ar [g_9,g_3,g_0,g_3,g_0] (fun d=>(Aeu d.1 d.2.1 d.2.2.1 d.2.2.2.1 d.2.2.2.2.1).val) fun r=>([rv g_9 r.1,rv g_4 r.2.1,rv g_3 r.2.2],[])
theorem Az1:Fn Tryz.prog 279 .plain Ap6:=mkF [(346,.plain,Uz),(281,.plain,Ws),(351,.plain,Awr)] ⟨Aa0,X3,A4l,trivial⟩ Tryz.func279 0
def Qg:As:=Ar [Do,g_3,g_0] (fun d=>(V9 d.1 d.2.1 d.2.2.1).val) fun r=>([rv Do r.1,rv g_4 r.2.1,rv g_3 r.2.2],[])
theorem Uc:Fn Tryz.prog 138 .plain Qg:=mkF [(270,.plain,Ho),(142,.plain,Gz),(279,.plain,Ap6)] ⟨H4,Ha,Az1,trivial⟩ Tryz.func138 0
def Ase:As:=Ar [Do] (fun d=>(Aru d.1).val) fun r=>([rv Do r.1,rv g_4 r.2.1,rv g_3 r.2.2],[])
theorem Aws:Fn Tryz.prog 200 .plain Ase:=mkF [(142,.plain,Gz),(270,.plain,Ho),(293,.plain,Ub),(138,.plain,Qg)] ⟨Ha,H4,Acd,Uc,trivial⟩ Tryz.func200 0
def Awt:As:=Ar [g_0,g_0] (fun d=>(Anf d.1 d.2.1).val) fun r=>([rv Aih r],[])
theorem A4m:Fn Tryz.prog 245 .plain Awt:=mkF [(134,.plain,C0)] ⟨Cs,trivial⟩ Tryz.func245 0
def Qh:As:=Ar [Do,g_4] (fun d=>(Aew d.1 d.2.1).val) fun r=>([rv Aih r],[])
theorem Sr:Fn Tryz.prog 139 .plain Qh:=mkF [(133,.plain,Jl),(245,.plain,Awt)] ⟨Kh,A4m,trivial⟩ Tryz.func139 0
def Ahc:As:=Ar [Ft,g_3,g_0] (fun d=>(T5 d.1 d.2.1 d.2.2.1).val) fun r=>([rv Ft r.1,rv Avz r.2.1,rv Anq r.2.2],[])
theorem Asf:Fn Tryz.prog 136 (.lend [2]) Ahc:=mkF [(277,.plain,Ahb),(134,.plain,C0),(200,.plain,Ase),(139,.plain,Qh)] ⟨Asd,Cs,Aws,Sr,trivial⟩ Tryz.func136 1
def S6:As:=Ar [Fc,g_3] (fun d=>(H7 d.1 d.2.1).val) fun r=>([rv Fc r],[])
def Ib:Fns:=[(150,.plain,Kg)]
theorem S7:CfgOk Tryz.prog (D3 Ib):=Gn Ny Kd (show K4 Tryz.prog Ib from⟨Mr,trivial⟩)
def Qi:Sk:=⟨[(1,.v false [(.int .i64,.nil)]),(4,.box 4 0),(5,.box 5 0),(13,.v false [(.sl 86 h_5,(.own 4000000))]),(14,.v false [(.int .i64,.nil)]),(15,.v false [(.int .i64,.nil)])],[(4,[(.int .i64,.nil),(.int .i64,.nil),(.sl 86 h_5,(.own 4000001))]),(5,[(.int .i64,.nil),(.int .i64,.nil),(.sl 86 h_5,(.own 4000002))])],[4000000,4000001,4000002]⟩
def Qj:List (Ex×Sk):=[((.exit 0),⟨[(4,.box 4 0),(5,.box 5 0)],[(4,[(.int .i64,.nil),(.int .i64,.nil),(.sl 86 h_5,(.own 4000000))]),(5,[(.int .i64,.nil),(.int .i64,.nil),(.sl 86 h_5,(.own 4000001))])],[4000000,4000001]⟩)]
def Lq:Fk:=fun i st=>cond (Nat.beq i 3) (lam Qi 4000000 Qj Dq st) <| .fail
theorem Ace (cx:Cx) (hp:cx.pin.length≤0):Dt Tryz.prog cx Tryz.f278.ntmps Lq (A8 Tryz.f278 0):=A62 S7 hp (Dl (by kernel_rfl:Bq (A8 Tryz.f278 0)=[]) trivial) 13 15 4500000 (by kernel_rfl) (by kernel_rfl) (fun d=>(by kernel_rfl:A63 (D3 Ib) 0 Tryz.f278.ntmps Lq (A8 Tryz.f278 0) Qi 4000000 Qj 13 15 4500000 d=Dq d))
theorem Ahn:Fn Tryz.prog 278 .plain S6:=P2 S7 Tryz.func278 (by kernel_rfl) (by kernel_rfl) (fun cx b hp hb=>Dl (by kernel_rfl:Bq (Tryz.f278.body.getD .skip)=[A8 Tryz.f278 0]) ⟨Ace cx hp,trivial⟩ b hb) (fun d=>(by kernel_rfl:Hw (D3 Ib) 0 Lq Tryz.f278 .plain (mkA [Fc,g_3] d)=(H7 d.1 d.2.1).run fun r=>some ([rv Fc r],[])))
def Atx:As:=Ar [Fc,g_3,g_7,g_0] (fun d=>(Aig d.1 d.2.1 d.2.2.1 d.2.2.2.1).val) fun r=>([rv Fc r.1,rv g_1 r.2],[])
theorem A2l:Fn Tryz.prog 137 .plain Atx:=mkF [(144,.plain,So),(95,.plain,Cb),(96,.plain,U0),(140,.plain,Iv),(150,.plain,Kg),(278,.plain,S6),(149,.plain,Afl),(134,.plain,C0)] ⟨Wt,B0,Aa1,Jk,Mr,Ahn,Amb,Cs,trivial⟩ Tryz.func137 0
def Ajg:As:=Ar [Ft,g_3,g_7,g_4,g_0] (fun d=>(Pw d.1 d.2.1 d.2.2.1 d.2.2.2.1 d.2.2.2.2.1).val) fun r=>([rv Ft r.1,rv Avz r.2.1,rv Anq r.2.2.1,rv g_1 r.2.2.2],[])
theorem Avf:Fn Tryz.prog 28 .plain Ajg:=mkF [(129,.plain,Ll),(29,.plain,Ms),(96,.plain,U0),(130,.plain,Ajf),(131,.plain,Ap2),(133,.plain,Jl),(132,.plain,Awp),(134,.plain,C0),(135,.plain,Ap3),(136,(.lend [2]),Ahc),(137,.plain,Atx),(138,.plain,Qg),(139,.plain,Qh)] ⟨N0,Nl,Aa1,Ave,Azx,Kh,A4j,Cs,Azy,Asf,A2l,Uc,Sr,trivial⟩ Tryz.func28 0
def Awu:As:=Ar [g_0,g_0] (fun d=>(Anh d.1 d.2.1).val) fun r=>([rv g_3 r],[])
theorem A4n:Fn Tryz.prog 320 .plain Awu:=Db [] trivial ⟨[(0,.v false [(.sl 5 [.int .u8],.ro)]),(1,.v false [(.sl 5 [.int .u8],.ro)]),(5,.v false [(.int .i64,.nil)]),(6,.v false [(.int .i64,.nil)])],[],[]⟩ 6000000 [((.exit 0),⟨[(5,.v false [(.int .i64,.nil)])],[],[]⟩)] 5 Px Tryz.func320 0
def Amc:As:=Ar [g_0,g_0] (fun d=>(Aai d.1 d.2.1).val) fun r=>([rv g_1 r],[])
theorem Awv:Fn Tryz.prog 219 .plain Amc:=mkF [(320,.plain,Awu)] ⟨A4n,trivial⟩ Tryz.func219 0
def Ap7:As:=Ar [g_0,g_3,g_4] (fun d=>(Aex d.1 d.2.1 d.2.2.1).val) fun r=>([rv g_0 r.1,rv g_1 r.2],[])
theorem Az2:Fn Tryz.prog 366 .plain Ap7:=mkF [(190,.plain,Jj),(215,.plain,Aky),(219,.plain,Amc),(312,.plain,Qb),(343,.plain,Ar3)] ⟨Kf,Anu,Awv,Sl,Awc,trivial⟩ Tryz.func366 0
def Ap8:As:=Ar [g_9,g_3,g_4] (fun d=>(Aez d.1 d.2.1 d.2.2.1).val) fun r=>([rv g_9 r.1,rv g_0 r.2.1,rv g_3 r.2.2],[])
theorem Az3:Fn Tryz.prog 311 .plain Ap8:=mkF [(358,.plain,Qa),(306,.plain,Afe),(190,.plain,Jj),(365,.plain,Afc),(366,.plain,Ap7),(367,.plain,Afd)] ⟨Sj,Ai1,Kf,Alz,Az2,Al0,trivial⟩ Tryz.func311 0
def Ajh:As:=Ar [Do,g_3,g_4] (fun d=>(Py d.1 d.2.1 d.2.2.1).val) fun r=>([rv Do r.1,rv g_0 r.2.1,rv g_3 r.2.2],[])
theorem Avg:Fn Tryz.prog 188 .plain Ajh:=mkF [(297,.plain,Iu),(184,.plain,H9),(66,.plain,Ca),(185,.plain,Nb),(86,.plain,Mo),(84,.plain,P9),(311,.plain,Ap8),(299,.plain,Lk)] ⟨Ji,It,By,P4,Na,Si,Az3,Mq,trivial⟩ Tryz.func188 0
def Ap9:As:=Ar [Do,g_3] (fun d=>(Ae0 d.1 d.2.1).val) fun r=>([rv g_0 r.1,rv g_1 r.2],[])
theorem Az4:Fn Tryz.prog 189 .plain Ap9:=mkF [(184,.plain,H9)] ⟨It,trivial⟩ Tryz.func189 0
def Aww:As:=Ar [g_0,g_0,g_0] (fun d=>(Anj d.1 d.2.1 d.2.2.1).val) fun r=>([rv Aih r],[])
theorem A4o:Fn Tryz.prog 81 .plain Aww:=mkF [] trivial Tryz.func81 0
def Aqa:As:=Ar [Fc,g_7] (fun d=>(Ae1 d.1 d.2.1).val) fun r=>([rv A6w r.1,rv g_1 r.2],[])
theorem Az5:Fn Tryz.prog 313 .plain Aqa:=Db [(198,.plain,Nd),(314,.plain,Nh)] ⟨P6,P7,trivial⟩ ⟨[(2,.box 2 0),(3,.box 3 0),(4,.box 4 0),(6,.v false [(.int .i64,.nil)])],[(2,[(.int .i64,.nil),(.int .i64,.nil),(.sl 86 h_5,.ro)]),(3,[(.int .i64,.nil),(.int .i64,.nil)]),(4,[(.int .i64,.nil),(.int .i64,.nil),(.sl 5 [.int .u8],(.own 5000000)),(.int .i64,.nil)])],[5000000]⟩ 5000000 [(.ret,⟨[(4,.box 4 0),(5,.v false [(.bool,.nil)])],[(4,[(.int .i64,.nil),(.int .i64,.nil),(.sl 5 [.int .u8],(.own 5000000)),(.int .i64,.nil)])],[5000000]⟩),((.exit 0),⟨[(4,.box 4 0)],[(4,[(.int .i64,.nil),(.int .i64,.nil),(.sl 5 [.int .u8],(.own 5000000)),(.int .i64,.nil)])],[5000000]⟩)] 4 Jg Tryz.func313 0
def Aqb:As:=Ar [Fc,g_3,g_7,g_0] (fun d=>(Ae2 d.1 d.2.1 d.2.2.1 d.2.2.2.1).val) fun r=>([rv Fc r.1,rv g_1 r.2],[])
theorem Az6:Fn Tryz.prog 191 .plain Aqb:=Db [(313,.plain,Aqa),(66,.plain,Ca),(84,.plain,P9),(310,.plain,Ni),(314,.plain,Nh)] ⟨Az5,By,Si,P8,P7,trivial⟩ ⟨[(4,.box 4 0),(6,.box 6 0),(8,.box 8 0),(12,.box 12 0),(13,.v false [(.int .i64,.nil)])],[(4,[(.int .i64,.nil),(.int .i64,.nil),(.sl 86 h_5,.ro)]),(6,[(.int .i64,.nil),(.int .i64,.nil)]),(8,[(.int .i64,.nil),(.int .i64,.nil),(.sl 86 h_5,(.own 7000000))]),(12,[(.int .i64,.nil),(.int .i64,.nil),(.sl 86 h_5,(.own 7000001))])],[7000000,7000001]⟩ 7000000 [((.exit 0),⟨[(8,.box 8 0),(12,.box 12 0)],[(8,[(.int .i64,.nil),(.int .i64,.nil),(.sl 86 h_5,(.own 7000000))]),(12,[(.int .i64,.nil),(.int .i64,.nil),(.sl 86 h_5,(.own 7000001))])],[7000000,7000001]⟩)] 6 Jh Tryz.func191 0
def Awx:As:=Ar [Do] (fun d=>(Anl d.1).val) fun r=>([rv Do r.1,rv g_1 r.2],[])
theorem A4p:Fn Tryz.prog 315 .plain Awx:=mkF [(297,.plain,Iu),(184,.plain,H9),(225,.plain,Mp),(299,.plain,Lk)] ⟨Ji,It,Nc,Mq,trivial⟩ Tryz.func315 0
def Ahd:As:=Ar [Do,g_3,g_0] (fun d=>(T6 d.1 d.2.1 d.2.2.1).val) fun r=>([rv Do r.1,rv g_3 r.2],[])
theorem Asg:Fn Tryz.prog 192 .plain Ahd:=mkF [(297,.plain,Iu),(184,.plain,H9),(66,.plain,Ca),(267,.plain,Nz),(84,.plain,P9),(315,.plain,Awx)] ⟨Ji,It,By,Ri,Si,A4p,trivial⟩ Tryz.func192 0
def Aqc:As:=Ar [g_9,g_3,g_0,g_3,g_0] (fun d=>(Ae3 d.1 d.2.1 d.2.2.1 d.2.2.2.1 d.2.2.2.2.1).val) fun r=>([rv g_9 r.1,rv g_4 r.2.1,rv g_3 r.2.2],[])
theorem Az7:Fn Tryz.prog 317 .plain Aqc:=mkF [(358,.plain,Qa),(306,.plain,Afe),(312,.plain,Qb),(86,.plain,Mo),(307,.plain,Uw),(266,.plain,Aff)] ⟨Sj,Ai1,Sl,Na,Aap,Ai3,trivial⟩ Tryz.func317 0
def Wy:As:=Ar [Do,g_3,g_0] (fun d=>(Wa d.1 d.2.1 d.2.2.1).val) fun r=>([rv Do r.1,rv g_4 r.2.1,rv g_3 r.2.2],[])
theorem Ahe:Fn Tryz.prog 196 .plain Wy:=mkF [(297,.plain,Iu),(184,.plain,H9),(317,.plain,Aqc)] ⟨Ji,It,Az7,trivial⟩ Tryz.func196 0
def A07:As:=Ar [Do] (fun d=>(Arv d.1).val) fun r=>([rv Do r.1,rv g_4 r.2.1,rv g_3 r.2.2],[])
theorem A64:Fn Tryz.prog 193 .plain A07:=mkF [(184,.plain,H9),(297,.plain,Iu),(267,.plain,Nz),(196,.plain,Wy)] ⟨It,Ji,Ri,Ahe,trivial⟩ Tryz.func193 0
def Awy:As:=Ar [g_0,g_0] (fun d=>(Ann d.1 d.2.1).val) fun r=>([rv Aih r],[])
theorem A4q:Fn Tryz.prog 74 .plain Awy:=mkF [] trivial Tryz.func74 0
def Amd:As:=Ar [Do,g_4] (fun d=>(Aak d.1 d.2.1).val) fun r=>([rv Aih r],[])
theorem Awz:Fn Tryz.prog 194 .plain Amd:=mkF [(190,.plain,Jj),(74,.plain,Awy)] ⟨Kf,A4q,trivial⟩ Tryz.func194 0
def Aji:As:=Ar [Ft,g_3,g_7,g_4,g_0] (fun d=>(Wb d.1 d.2.1 d.2.2.1 d.2.2.2.1 d.2.2.2.2.1).val) fun r=>([rv Ft r.1,rv Avz r.2.1,rv Anq r.2.2.1,rv g_1 r.2.2.2],[])
theorem Avh:Fn Tryz.prog 52 .plain Aji:=mkF [(187,.plain,Aay),(53,.plain,Uy),(67,.plain,P5),(188,.plain,Ajh),(189,.plain,Ap9),(190,.plain,Jj),(81,.plain,Aww),(191,.plain,Aqb),(192,.plain,Ahd),(193,.plain,A07),(194,.plain,Amd),(195,.plain,Aix),(196,.plain,Wy)] ⟨Ai2,Aax,Sf,Avg,Az4,Kf,A4o,Az6,Asg,A64,Awz,Apa,Ahe,trivial⟩ Tryz.func52 0
def Rk:As:=Ar [g_0,g_0] (fun d=>(Anp d.1 d.2.1).val) fun r=>([rv g_1 r],[])
theorem S8:Fn Tryz.prog 34 .plain Rk:=mkF [] trivial Tryz.func34 0
def Ajj:As:=Ar [g_5,g_5] (fun d=>(Wd d.1 d.2.1).val) fun r=>([rv g_1 r],[])
theorem Avi:Fn Tryz.prog 386 .plain Ajj:=Db [] trivial ⟨[(0,.v false [(.sl 3 [.int .i64],.ro)]),(1,.v false [(.sl 3 [.int .i64],.ro)]),(5,.v false [(.int .i64,.nil)])],[],[]⟩ 5000000 [(.ret,⟨[(4,.v false [(.bool,.nil)])],[],[]⟩),((.exit 0),⟨[],[],[]⟩)] 4 Hh Tryz.func386 0
def Ame:As:=Ar [g_8,g_8] (fun d=>(Aal d.1 d.2.1).val) fun r=>([rv g_1 r],[])
theorem Aw0:Fn Tryz.prog 354 .plain Ame:=mkF [(386,.plain,Ajj)] ⟨Avi,trivial⟩ Tryz.func354 0
def Aqd:As:=Ar [g_9,g_9] (fun d=>(Ae5 d.1 d.2.1).val) fun r=>([rv g_1 r],[])
theorem Az8:Fn Tryz.prog 285 .plain Aqd:=mkF [(34,.plain,Rk),(354,.plain,Ame)] ⟨S8,Aw0,trivial⟩ Tryz.func285 0
def Ajk:As:=Ar [Do,Do] (fun d=>(Wg d.1 d.2.1).val) fun r=>([rv g_1 r],[])
theorem Avj:Fn Tryz.prog 147 .plain Ajk:=mkF [(34,.plain,Rk),(285,.plain,Aqd)] ⟨S8,Az8,trivial⟩ Tryz.func147 0
def Ahf:As:=Ar [Fc,Fc] (fun d=>(T7 d.1 d.2.1).val) fun r=>([rv g_1 r],[])
theorem Ash:Fn Tryz.prog 148 .plain Ahf:=Db [(34,.plain,Rk)] ⟨S8,trivial⟩ ⟨[(2,.box 2 0),(3,.box 3 0),(5,.v false [(.int .i64,.nil)])],[(2,[(.int .i64,.nil),(.int .i64,.nil),(.sl 86 h_5,.ro)]),(3,[(.int .i64,.nil),(.int .i64,.nil),(.sl 86 h_5,.ro)])],[]⟩ 5000000 [(.ret,⟨[(4,.v false [(.bool,.nil)])],[],[]⟩),((.exit 0),⟨[],[],[]⟩)] 4 Gi Tryz.func148 0
def Ajl:As:=Ar [Ft,Ft] (fun d=>(Wh d.1 d.2.1).val) fun r=>([rv g_1 r],[])
theorem Avk:Fn Tryz.prog 32 .plain Ajl:=mkF [(34,.plain,Rk),(147,.plain,Ajk),(148,.plain,Ahf)] ⟨S8,Avj,Ash,trivial⟩ Tryz.func32 0
def Ajm:As:=Ar [Aih,Aih] (fun d=>(Wi d.1 d.2.1).val) fun r=>([rv g_1 r],[])
theorem Avl:Fn Tryz.prog 199 .plain Ajm:=mkF [(143,.plain,Gp)] ⟨Hi,trivial⟩ Tryz.func199 0
def Ahg:As:=Ar [Anq,Anq] (fun d=>(T8 d.1 d.2.1).val) fun r=>([rv g_1 r],[])
theorem Asi:Fn Tryz.prog 54 .plain Ahg:=Db [(199,.plain,Ajm)] ⟨Avl,trivial⟩ ⟨[(0,.v false [(.sl 113 h_9,.ro)]),(1,.v false [(.sl 113 h_9,.ro)]),(5,.v false [(.int .i64,.nil)])],[],[]⟩ 5000000 [(.ret,⟨[(4,.v false [(.bool,.nil)])],[],[]⟩),((.exit 0),⟨[],[],[]⟩)] 4 Gj Tryz.func54 0
def Aw1:As:=Ar [Ft] (fun d=>(Ae6 d.1).val) fun r=>([rv Ft r],[])
theorem A4r:Fn Tryz.prog 55 .plain Aw1:=mkF [(29,.plain,Ms),(129,.plain,Ll),(134,.plain,C0)] ⟨Nl,N0,Cs,trivial⟩ Tryz.func55 0
def Amf:As:=Ar [Ft] (fun d=>(Aan d.1).val) fun r=>([rv Ft r.1,rv Avz r.2.1,rv Anq r.2.2],[])
theorem Aw2:Fn Tryz.prog 56 .plain Amf:=mkF [(129,.plain,Ll),(29,.plain,Ms),(200,.plain,Ase),(139,.plain,Qh)] ⟨N0,Nl,Aws,Sr,trivial⟩ Tryz.func56 0
def Ajn:As:=Ar [Ft,g_0] (fun d=>(Wl d.1 d.2.1).val) fun r=>([rv Ft r.1,rv Avz r.2.1,rv Anq r.2.2.1,rv g_3 r.2.2.2],[])
theorem Avm:Fn Tryz.prog 57 .plain Ajn:=mkF [(129,.plain,Ll),(29,.plain,Ms),(138,.plain,Qg),(134,.plain,C0),(139,.plain,Qh)] ⟨N0,Nl,Uc,Cs,Sr,trivial⟩ Tryz.func57 0
def Aqe:As:=Ar [Do] (fun d=>(Ae7 d.1).val) fun r=>([rv A9v r],[])
theorem Az9:Fn Tryz.prog 58 .plain Aqe:=mkF [(142,.plain,Gz),(134,.plain,C0)] ⟨Ha,Cs,trivial⟩ Tryz.func58 0
end
end Go.Proofs.YtmhhajdeafijmaaGreat

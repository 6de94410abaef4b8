/-
  That the functions of the seat answer what the terms of text W say; nothing is assumed.
-/
import Derived.Test.YtmhhajdeafijmaaGreatW
import Derived.Test.YtmhhajdeafijmaaGreatProg
import Derived.KernelRfl
namespace Go.Proofs.YtmhhajdeafijmaaGreat
open Go.RowKit
set_option linter.unusedVariables false
set_option maxRecDepth 100000
set_option maxHeartbeats 4000000
noncomputable section
abbrev h_0:List Sh:=[.int .i64,.int .i64,.bool,.int .u8]
abbrev h_1:List Sh:=[.bool,.int .i64,.int .i64,.int .i64]
abbrev h_2:List Sh:=[.sl 5 [.int .u8],.int .i64,.int .i64]
abbrev h_3:List Sh:=[.int .i64,.int .i64,.int .i64,.int .i64]
abbrev h_4:List Sh:=[.sl 3 [.int .i64],.sl 5 [.int .u8],.int .i64]
abbrev h_5:List Sh:=[.int .i64,.int .i64,.sl 5 [.int .u8],.int .i64]
abbrev h_6:List Sh:=[.int .i64,.sl 5 [.int .u8],.int .i64,.int .i64,.sl 3 [.int .i64]]
abbrev h_7:List Sh:=[.int .i64,.int .i64,.sl 86 h_5]
abbrev h_8:List Sh:=[.int .i64,.int .i64,.sl 342 h_5]
abbrev h_9:List Sh:=[.int .i64,.int .i64,.int .i64,.sl 5 [.int .u8],.sl 5 [.int .u8],.int .i64,.int .i64,.sl 5 [.int .u8],.sl 5 [.int .u8],.int .i64,.int .i64,.int .i64]
abbrev A7o:List Sh:=[.int .i64,.int .i64,.sl 5 [.int .u8],.sl 5 [.int .u8],.int .i64,.sl 5 [.int .u8],.sl 5 [.int .u8],.int .i64,.int .i64,.sl 5 [.int .u8],.sl 5 [.int .u8]]
abbrev Az7:List Sh:=[.int .i64,.int .i64,.int .i64,.int .i64,.sl 5 [.int .u8],.sl 5 [.int .u8],.int .i64,.sl 5 [.int .u8],.sl 5 [.int .u8],.int .i64,.int .i64,.sl 5 [.int .u8],.sl 5 [.int .u8]]
abbrev A7p:List Sh:=[.int .i64,.sl 5 [.int .u8],.int .i64,.sl 5 [.int .u8],.int .i64,.int .i64,.sl 3 [.int .i64],.int .i64,.sl 5 [.int .u8],.int .i64,.int .i64,.sl 3 [.int .i64],.bool,.int .i64,.sl 5 [.int .u8]]
abbrev A4l:List Sh:=[.int .i64,.sl 5 [.int .u8],.sl 5 [.int .u8],.int .i64,.sl 5 [.int .u8],.int .i64,.sl 5 [.int .u8],.int .i64,.int .i64,.sl 3 [.int .i64],.int .i64,.sl 5 [.int .u8],.int .i64,.int .i64,.sl 3 [.int .i64],.bool,.int .i64,.sl 5 [.int .u8],.int .i64,.int .i64,.sl 86 h_5,.int .i64,.int .i64,.bool]
abbrev A82:List Sh:=[.int .i64,.sl 5 [.int .u8],.sl 5 [.int .u8],.int .i64,.sl 5 [.int .u8],.int .i64,.sl 5 [.int .u8],.int .i64,.int .i64,.sl 3 [.int .i64],.int .i64,.sl 5 [.int .u8],.int .i64,.int .i64,.sl 3 [.int .i64],.bool,.int .i64,.sl 5 [.int .u8],.int .i64,.int .i64,.sl 342 h_5,.int .i64,.int .i64,.bool]
abbrev A9a:List Sh:=[.sl 23 [.sl 5 [.int .u8]],.sl 5 [.int .u8],.sl 5 [.int .u8],.int .i64,.int .i64,.sl 74 A4l,.sl 230 h_3]
abbrev A9b:List Sh:=[.sl 23 [.sl 5 [.int .u8]],.sl 5 [.int .u8],.sl 5 [.int .u8],.int .i64,.int .i64,.sl 301 A82,.sl 248 h_3]
abbrev A9c:List Sh:=[.int .i64,.sl 5 [.int .u8],.int .i64,.int .i64,.int .i64,.sl 5 [.int .u8],.int .i64,.int .i64,.sl 5 [.int .u8],.sl 5 [.int .u8],.int .i64,.sl 5 [.int .u8],.sl 5 [.int .u8],.int .i64,.int .i64,.sl 5 [.int .u8],.sl 5 [.int .u8],.int .i64,.sl 5 [.int .u8],.int .i64,.sl 5 [.int .u8],.int .i64,.int .i64,.sl 3 [.int .i64],.int .i64,.sl 5 [.int .u8],.int .i64,.int .i64,.sl 3 [.int .i64],.bool,.int .i64,.sl 5 [.int .u8],.bool,.int .i64,.int .i64,.int .i64,.bool,.int .i64,.int .i64,.int .i64,.int .i64]
abbrev g_0:Bool×List Sh:=(false,[.sl 5 [.int .u8]])
abbrev g_1:Bool×List Sh:=(false,[.bool])
abbrev g_2:Bool×List Sh:=(true,h_2)
abbrev g_3:Bool×List Sh:=(false,[.int .i64])
abbrev g_4:Bool×List Sh:=(true,A7o)
abbrev g_5:Bool×List Sh:=(false,[.sl 3 [.int .i64]])
abbrev g_6:Bool×List Sh:=(false,[.str])
abbrev g_7:Bool×List Sh:=(true,[.int .i64,.int .i64])
abbrev g_8:Bool×List Sh:=(true,[.int .i64,.sl 3 [.int .i64]])
abbrev g_9:Bool×List Sh:=(true,h_6)
abbrev H5:Bool×List Sh:=(true,A7p)
abbrev Gf:Bool×List Sh:=(true,h_7)
abbrev Rp:Bool×List Sh:=(true,A4l)
abbrev A4m:Bool×List Sh:=(true,h_5)
abbrev A83:Bool×List Sh:=(false,[.sl 23 [.sl 5 [.int .u8]]])
abbrev At1:Bool×List Sh:=(true,h_4)
abbrev A84:Bool×List Sh:=(false,[.int .u8])
abbrev Az8:Bool×List Sh:=(true,h_9)
abbrev A4n:Bool×List Sh:=(false,[.sl 90 Az7])
abbrev A4o:Bool×List Sh:=(false,[.sl 113 h_9])
def tys:List (Nat×Ty):=[(3,⟨false,[.int .i64],[],false,[]⟩),
 (4,⟨false,[.bool],[],false,[]⟩),
 (5,⟨false,[.int .u8],[],false,[]⟩),
 (9,⟨false,[.str],[],false,[]⟩),
 (22,⟨false,[.sl 23 [.sl 5 [.int .u8]]],[],false,[]⟩),
 (23,⟨false,[.sl 5 [.int .u8]],[],false,[]⟩),
 (45,⟨false,[.sl 90 Az7],[],false,[]⟩),
 (46,⟨false,[.sl 113 h_9],[],false,[]⟩),
 (50,⟨true,[.int .i64,.int .i64],[(0,1),(1,1)],true,[]⟩),
 (63,⟨false,[.sl 3 [.int .i64]],[],false,[]⟩),
 (65,⟨true,[.int .i64,.sl 3 [.int .i64]],[(0,1),(1,1)],false,[]⟩),
 (67,⟨true,h_6,[(0,1),(1,1),(2,1),(3,2)],false,[]⟩),
 (69,⟨true,A7p,[(0,1),(1,1),(2,5),(7,5),(12,1),(13,1),(14,1)],false,[]⟩),
 (70,⟨false,[.sl 86 h_5],[],false,[]⟩),
 (72,⟨true,h_7,[(0,2),(2,1)],false,[50,70]⟩),
 (74,⟨true,A4l,[(0,1),(1,1),(2,1),(3,15),(18,3),(21,1),(22,1),(23,1)],false,[]⟩),
 (76,⟨true,A7o,[(0,1),(1,1),(2,1),(3,1),(4,1),(5,1),(6,1),(7,1),(8,1),(9,1),(10,1)],false,[]⟩),
 (86,⟨true,h_5,[(0,2),(2,1),(3,1)],false,[]⟩),
 (90,⟨true,Az7,[(0,2),(2,11)],false,[]⟩),
 (113,⟨true,h_9,[(0,1),(1,1),(2,1),(3,1),(4,1),(5,1),(6,1),(7,1),(8,1),(9,2),(11,1)],false,[]⟩),
 (260,⟨true,h_2,[(0,1),(1,1),(2,1)],false,[]⟩),
 (308,⟨false,[.int .u64],[],false,[]⟩),
 (350,⟨true,h_4,[(0,1),(1,1),(2,1)],false,[]⟩)]
theorem Kv:Az9 Tryz.prog tys=true:=by kernel_rfl
theorem Oa:Tryz.prog.follows .mixedOrders=true:=by kernel_rfl
abbrev D8 (C:Fns):Cfg:=⟨Am2 tys,Sx C,Qg C,3,4⟩
theorem mkF {f:FuncId} {fn:Func} {kd:Kind} {ps:List (Bool×List Sh)} {R:Type} {T:Og ps→Tree R} {rvs:R→List RV×List RV} (C:Fns) (hc:Lm Tryz.prog C) (hf:Tryz.prog.funcs[f]? =some fn) (np:Nat) (hn:(fn.name== "runtime.NumGoroutine")=false:=by kernel_rfl) (hb:fn.body.isSome=true:=by kernel_rfl) (hl:Bs (fn.body.getD .skip)=[]:=by kernel_rfl)
  (he: ∀d,H2 (D8 C) np (fun _ _=>.fail) fn kd (mkA ps d)=(T d).run fun r=>some (rvs r):=by intro d;kernel_rfl):Fn Tryz.prog f kd (Aw ps (fun d=>(T d).val) rvs):=
 Qh (Gx Oa Kv hc) hf hn hb (fun cx b hp hbb=>by rw[hl]at hbb;cases hbb) he
abbrev lpq (r:Nat) (K:Sk) (z:Nat) (X:List (Ex×Sk)) (B:K.den→Option (K.den⊕Oh X)):Fv:=fun i st=>cond (Nat.beq i r) (lam K z X B st) .fail
theorem Df {f:FuncId} {fn:Func} {kd:Kind} {ps:List (Bool×List Sh)} {R:Type} {T:Og ps→Tree R} {rvs:R→List RV×List RV} (C:Fns) (hc:Lm Tryz.prog C) (K:Sk) (z:Nat) (X:List (Ex×Sk)) (r:Nat) (B:K.den→Option (K.den⊕Oh X)) (hf:Tryz.prog.funcs[f]? =some fn) (np:Nat) (hn:(fn.name== "runtime.NumGoroutine")=false:=by kernel_rfl) (hb:fn.body.isSome=true:=by kernel_rfl) (h1:Bs (fn.body.getD .skip)=[Ba fn 0]:=by kernel_rfl) (h2:Bs (Ba fn 0)=[]:=by kernel_rfl)
  (hq:lpq r K z X B (Kw (Ba fn 0))=lam K z X B:=by kernel_rfl) (hl: ∀d,bod (D8 C) np fn.ntmps (lpq r K z X B) (Ba fn 0) K z X d=B d:=by intro d;kernel_rfl)
  (he: ∀d,H2 (D8 C) np (lpq r K z X B) fn kd (mkA ps d)=(T d).run fun r=>some (rvs r):=by intro d;kernel_rfl):Fn Tryz.prog f kd (Aw ps (fun d=>(T d).val) rvs):=
 Qh (Gx Oa Kv hc) hf hn hb (fun cx b hp hbb=>Do h1 ⟨Fs (Gx Oa Kv hc) hp (Do h2 trivial) hq hl,trivial⟩ b hbb) he
def Ayv:Ax:=Aw [g_0] (fun d=>(Ayr d.1).val) fun r=>([rv g_1 r],[])
theorem A4p:Fn Tryz.prog 26 .plain Ayv:=mkF [] trivial Tryz.func26 0
def Ari:Ax:=Aw [g_0] (fun d=>(Agn d.1).val) fun r=>([rv g_2 r],[])
theorem A0a:Fn Tryz.prog 124 .ret Ari:=Df [] trivial ⟨[(0,.v false [(.sl 5 [.int .u8],.ro)]),(3,.v false [(.int .i64,.nil)]),(4,.v false [(.int .i64,.nil)])],[],[]⟩ 4000000 [((.exit 0),⟨[(0,.v false [(.sl 5 [.int .u8],.ro)]),(3,.v false [(.int .i64,.nil)])],[],[]⟩)] 3 Sf Tryz.func124 0
def Qi:Ax:=Aw [g_2] (fun d=>(Acn d.1).val) fun r=>([rv g_3 r.1],[rv g_2 r.2])
theorem Sy:Fn Tryz.prog 269 (.box [3] true true) Qi:=mkF [] trivial Tryz.func269 1
def I3:Ax:=Aw [g_2,g_3] (fun d=>(Zt d.1 d.2.1).val) fun r=>([rv g_0 r.1],[rv g_2 r.2])
theorem Jo:Fn Tryz.prog 128 (.box [3] true true) I3:=Df [(269,(.box [3] true true),Qi)] ⟨Sy,trivial⟩ ⟨[(0,.box 0 0),(1,.v false [(.int .i64,.nil)]),(5,.v false [(.sl 5 [.int .u8],(.own 4000000))]),(6,.v false [(.int .i64,.nil)])],[(0,[(.sl 5 [.int .u8],(.pin 0)),(.int .i64,.nil),(.int .i64,.nil)])],[4000000]⟩ 4000000 [((.exit 0),⟨[(0,.box 0 0),(5,.v false [(.sl 5 [.int .u8],(.own 4000000))])],[(0,[(.sl 5 [.int .u8],(.pin 0)),(.int .i64,.nil),(.int .i64,.nil)])],[4000000]⟩)] 3 Kr Tryz.func128 1
def D5:Ax:=Aw [g_2,g_3] (fun d=>(Zu d.1 d.2.1).val) fun r=>([rv g_3 r.1],[rv g_2 r.2])
theorem Dy:Fn Tryz.prog 175 (.box [3] true true) D5:=mkF [(269,(.box [3] true true),Qi)] ⟨Sy,trivial⟩ Tryz.func175 1
def Afz:Ax:=Aw [g_2] (fun d=>(N4 d.1).val) fun r=>([rv g_4 r.1],[rv g_2 r.2])
theorem Apy:Fn Tryz.prog 173 (.box [3] true true) Afz:=mkF [(128,(.box [3] true true),I3),(175,(.box [3] true true),D5)] ⟨Jo,Dy,trivial⟩ Tryz.func173 1
def Db:Ax:=Aw [g_3,g_3,g_3] (fun d=>(Alc d.1 d.2.1 d.2.2.1).val) fun r=>([rv g_1 r],[])
theorem C0:Fn Tryz.prog 66 .plain Db:=mkF [] trivial Tryz.func66 0
def Uz:Ax:=Aw [g_3] (fun d=>(Aco d.1).val) fun r=>([rv g_1 r],[])
theorem Aak:Fn Tryz.prog 86 .plain Uz:=mkF [(66,.plain,Db)] ⟨C0,trivial⟩ Tryz.func86 0
def Aee:Ax:=Aw [g_3,g_3] (fun d=>(Acp d.1 d.2.1).val) fun r=>([rv g_1 r],[])
theorem Aj3:Fn Tryz.prog 307 .plain Aee:=mkF [] trivial Tryz.func307 0
def Sz:Ax:=Aw [g_4] (fun d=>(Zv d.1).val) fun r=>([rv g_1 r],[])
theorem Wk:Fn Tryz.prog 185 .plain Sz:=mkF [(86,.plain,Uz),(66,.plain,Db),(307,.plain,Aee)] ⟨Aak,C0,Aj3,trivial⟩ Tryz.func185 0
def Xs:Ax:=Aw [g_0] (fun d=>(Agp d.1).val) fun r=>([rv g_1 r],[])
theorem Aef:Fn Tryz.prog 180 .plain Xs:=mkF [(66,.plain,Db)] ⟨C0,trivial⟩ Tryz.func180 0
def Oi:Ax:=Aw [g_0,g_3,g_3] (fun d=>(Ald d.1 d.2.1 d.2.2.1).val) fun r=>([rv g_0 r],[])
theorem Oz:Fn Tryz.prog 217 .plain Oi:=Df [] trivial ⟨[(1,.v false [(.int .i64,.nil)]),(7,.v false [(.sl 5 [.int .u8],(.own 6000000))]),(8,.v false [(.int .i64,.nil)])],[],[6000000]⟩ 6000000 [((.exit 0),⟨[(7,.v false [(.sl 5 [.int .u8],(.own 6000000))])],[],[6000000]⟩)] 5 Pj Tryz.func217 0
def Ayw:Ax:=Aw [g_3] (fun d=>(Api d.1).val) fun r=>([rv g_0 r],[])
theorem A4q:Fn Tryz.prog 394 .plain Ayw:=Df [(217,.plain,Oi)] ⟨Oz,trivial⟩ ⟨[(0,.v false [(.int .i64,.nil)]),(3,.v false [(.sl 5 [.int .u8],(.own 5000000))])],[],[5000000]⟩ 5000000 [((.exit 0),⟨[(0,.v false [(.int .i64,.nil)]),(3,.v false [(.sl 5 [.int .u8],(.own 5000000))])],[],[5000000]⟩)] 4 Agq Tryz.func394 0
def Arj:Ax:=Aw [] (fun d=>(Are).val) fun r=>([rv g_5 r],[])
theorem A0b:Fn Tryz.prog 395 .plain Arj:=mkF [] trivial Tryz.func395 0
def Aj4:Ax:=Aw [g_5] (fun d=>(Zw d.1).val) fun r=>([rv g_1 r],[])
theorem At2:Fn Tryz.prog 409 .plain Aj4:=Df [(66,.plain,Db)] ⟨C0,trivial⟩ ⟨[(0,.v false [(.sl 3 [.int .i64],.ro)]),(3,.v false [(.int .i64,.nil)])],[],[]⟩ 3000000 [(.ret,⟨[(2,.v false [(.bool,.nil)])],[],[]⟩),((.exit 0),⟨[(0,.v false [(.sl 3 [.int .i64],.ro)])],[],[]⟩)] 2 Kt Tryz.func409 0
def Ayx:Ax:=Aw [] (fun d=>(Ayt).val) fun r=>([rv g_5 r],[])
theorem A4r:Fn Tryz.prog 410 .plain Ayx:=mkF [] trivial Tryz.func410 0
def At3:Ax:=Aw [g_0,g_3,g_3] (fun d=>(Ale d.1 d.2.1 d.2.2.1).val) fun r=>([rv g_3 r.1,rv g_3 r.2.1,rv g_1 r.2.2],[])
theorem A2e:Fn Tryz.prog 210 .plain At3:=Df [] trivial ⟨[(0,.v false [(.sl 5 [.int .u8],.ro)]),(1,.v false [(.int .i64,.nil)]),(2,.v false [(.int .i64,.nil)]),(9,.v false [(.int .i64,.nil)]),(10,.v false [(.int .i64,.nil)])],[],[]⟩ 6000000 [((.exit 0),⟨[(1,.v false [(.int .i64,.nil)]),(2,.v false [(.int .i64,.nil)]),(9,.v false [(.int .i64,.nil)])],[],[]⟩)] 5 Mn Tryz.func210 0
def Apz:Ax:=Aw [g_3,g_3] (fun d=>(Apk d.1 d.2.1).val) fun r=>([rv g_3 r],[])
theorem At4:Fn Tryz.prog 412 .plain Apz:=mkF [] trivial Tryz.func412 0
def Ag8:Ax:=Aw [g_0] (fun d=>(Pk d.1).val) fun r=>([rv g_5 r],[])
def Lz:Fns:=[(210,.plain,At3),(412,.plain,Apz)]
theorem Wl:CfgOk Tryz.prog (D8 Lz):=Gx Oa Kv (show Lm Tryz.prog Lz from⟨A2e,At4,trivial⟩)
def Xt:Sk:=⟨[(3,.v false [(.sl 3 [.int .i64],(.own 11000000))]),(8,.v false [(.int .i64,.nil)])],[],[11000000]⟩
def Xu:List (Ex×Sk):=[((.exit 2),⟨[(3,.v false [(.sl 3 [.int .i64],(.own 11000000))])],[],[11000000]⟩)]
def Abn:Sk:=⟨[(0,.v false [(.sl 5 [.int .u8],.ro)]),(3,.v false [(.sl 3 [.int .i64],(.own 6000000))]),(4,.v false [(.int .i64,.nil)])],[],[6000000]⟩
def Abo:List (Ex×Sk):=[((.exit 0),⟨[(3,.v false [(.sl 3 [.int .i64],(.own 6000000))])],[],[6000000]⟩)]
def L0:Fv:=fun i st=>cond (Nat.beq i 5) (lam Abn 6000000 Abo Hn st) <| cond (Nat.beq i 10) (lam Xt 11000000 Xu Gn st) <| .fail
theorem Am3 (cx:Cx) (hp:cx.pin.length≤0):Dz Tryz.prog cx Tryz.f411.ntmps L0 (Ba Tryz.f411 0):=Fs Wl hp (Do (by kernel_rfl:Bs (Ba Tryz.f411 0)=[]) trivial) (by kernel_rfl) (fun d=>(by kernel_rfl:bod (D8 Lz) 0 Tryz.f411.ntmps L0 (Ba Tryz.f411 0) Abn 6000000 Abo d=Hn d))
theorem Alu (cx:Cx) (hp:cx.pin.length≤0):Dz Tryz.prog cx Tryz.f411.ntmps L0 (Ba Tryz.f411 1):=Fs Wl hp (Do (by kernel_rfl:Bs (Ba Tryz.f411 1)=[]) trivial) (by kernel_rfl) (fun d=>(by kernel_rfl:bod (D8 Lz) 0 Tryz.f411.ntmps L0 (Ba Tryz.f411 1) Xt 11000000 Xu d=Gn d))
theorem Asv:Fn Tryz.prog 411 .plain Ag8:=Qh Wl Tryz.func411 (by kernel_rfl) (by kernel_rfl) (fun cx b hp hb=>Do (by kernel_rfl:Bs (Tryz.f411.body.getD .skip)=[Ba Tryz.f411 0,Ba Tryz.f411 1]) ⟨Am3 cx hp,Alu cx hp,trivial⟩ b hb) (fun d=>(by kernel_rfl:H2 (D8 Lz) 0 L0 Tryz.f411 .plain (mkA [g_0] d)=(Pk d.1).run fun r=>some ([rv g_5 r],[])))
def Ag9:Ax:=Aw [g_5,g_0] (fun d=>(Pm d.1 d.2.1).val) fun r=>([rv g_5 r],[])
def L3:Fns:=[(409,.plain,Aj4),(410,.plain,Ayx),(411,.plain,Ag8),(412,.plain,Apz)]
theorem Wm:CfgOk Tryz.prog (D8 L3):=Gx Oa Kv (show Lm Tryz.prog L3 from⟨At2,A4r,Asv,At4,trivial⟩)
def Xv:Sk:=⟨[(0,.v false [(.sl 3 [.int .i64],.ro)]),(5,.v false [(.sl 3 [.int .i64],(.own 23000000))]),(19,.v false [(.sl 3 [.int .i64],(.own 23000001))]),(20,.v false [(.int .i64,.nil)])],[],[23000000,23000001]⟩
def Xw:List (Ex×Sk):=[((.exit 2),⟨[(5,.v false [(.sl 3 [.int .i64],(.own 23000000))])],[],[23000000]⟩)]
def Abp:Sk:=⟨[(0,.v false [(.sl 3 [.int .i64],.ro)]),(5,.v false [(.sl 3 [.int .i64],(.own 9000000))]),(6,.v false [(.sl 3 [.int .i64],(.own 9000001))]),(7,.v false [(.sl 3 [.int .i64],(.own 9000002))]),(8,.v false [(.int .i64,.nil)]),(9,.v false [(.int .i64,.nil)]),(10,.v false [(.int .i64,.nil)]),(11,.v false [(.int .i64,.nil)]),(12,.v false [(.int .i64,.nil)]),(13,.v false [(.int .i64,.nil)]),(14,.v false [(.int .i64,.nil)]),(15,.v false [(.int .i64,.nil)]),(16,.v false [(.int .i64,.nil)])],[],[9000000,9000001,9000002]⟩
def Abq:List (Ex×Sk):=[((.exit 0),⟨[(0,.v false [(.sl 3 [.int .i64],.ro)]),(5,.v false [(.sl 3 [.int .i64],(.own 9000000))]),(8,.v false [(.int .i64,.nil)]),(9,.v false [(.int .i64,.nil)]),(10,.v false [(.int .i64,.nil)]),(11,.v false [(.int .i64,.nil)]),(12,.v false [(.int .i64,.nil)]),(13,.v false [(.int .i64,.nil)]),(14,.v false [(.int .i64,.nil)]),(15,.v false [(.int .i64,.nil)])],[],[9000000]⟩)]
def L4:Fv:=fun i st=>cond (Nat.beq i 8) (lam Abp 9000000 Abq Fz st) <| cond (Nat.beq i 22) (lam Xv 23000000 Xw Fj st) <| .fail
theorem Am4 (cx:Cx) (hp:cx.pin.length≤0):Dz Tryz.prog cx Tryz.f396.ntmps L4 (Ba Tryz.f396 0):=Fs Wm hp (Do (by kernel_rfl:Bs (Ba Tryz.f396 0)=[]) trivial) (by kernel_rfl) (fun d=>(by kernel_rfl:bod (D8 L3) 0 Tryz.f396.ntmps L4 (Ba Tryz.f396 0) Abp 9000000 Abq d=Fz d))
theorem Alv (cx:Cx) (hp:cx.pin.length≤0):Dz Tryz.prog cx Tryz.f396.ntmps L4 (Ba Tryz.f396 1):=Fs Wm hp (Do (by kernel_rfl:Bs (Ba Tryz.f396 1)=[]) trivial) (by kernel_rfl) (fun d=>(by kernel_rfl:bod (D8 L3) 0 Tryz.f396.ntmps L4 (Ba Tryz.f396 1) Xv 23000000 Xw d=Fj d))
theorem Asw:Fn Tryz.prog 396 .plain Ag9:=Qh Wm Tryz.func396 (by kernel_rfl) (by kernel_rfl) (fun cx b hp hb=>Do (by kernel_rfl:Bs (Tryz.f396.body.getD .skip)=[Ba Tryz.f396 0,Ba Tryz.f396 1]) ⟨Am4 cx hp,Alv cx hp,trivial⟩ b hb) (fun d=>(by kernel_rfl:H2 (D8 L3) 0 L4 Tryz.f396 .plain (mkA [g_5,g_0] d)=(Pm d.1 d.2.1).run fun r=>some ([rv g_5 r],[])))
def Ark:Ax:=Aw [g_5] (fun d=>(Agr d.1).val) fun r=>([rv g_0 r],[])
theorem A0c:Fn Tryz.prog 397 .plain Ark:=Df [(217,.plain,Oi)] ⟨Oz,trivial⟩ ⟨[(0,.v false [(.sl 3 [.int .i64],.ro)]),(3,.v false [(.sl 5 [.int .u8],(.own 4000000))]),(4,.v false [(.int .i64,.nil)])],[],[4000000]⟩ 4000000 [((.exit 0),⟨[(3,.v false [(.sl 5 [.int .u8],(.own 4000000))])],[],[4000000]⟩)] 3 K5 Tryz.func397 0
def Ap0:Ax:=Aw [g_0] (fun d=>(Apl d.1).val) fun r=>([rv g_0 r],[])
theorem At5:Fn Tryz.prog 371 .plain Ap0:=Df [(394,.plain,Ayw),(395,.plain,Arj),(396,.plain,Ag9),(397,.plain,Ark)] ⟨A4q,A0b,Asw,A0c,trivial⟩ ⟨[(3,.v false [(.sl 5 [.int .u8],(.own 7000000))]),(4,.v false [(.sl 3 [.int .i64],(.own 7000001))]),(5,.v false [(.int .i64,.nil)])],[],[7000000,7000001]⟩ 7000000 [((.exit 0),⟨[(4,.v false [(.sl 3 [.int .i64],(.own 7000000))])],[],[7000000]⟩)] 6 Ow Tryz.func371 0
def Aha:Ax:=Aw [g_0] (fun d=>(Vk d.1).val) fun r=>([rv g_0 r],[])
theorem Asx:Fn Tryz.prog 370 .plain Aha:=Df [(371,.plain,Ap0)] ⟨At5,trivial⟩ ⟨[(3,.v false [(.sl 5 [.int .u8],(.own 7000000))])],[],[7000000]⟩ 7000000 [((.exit 0),⟨[(3,.v false [(.sl 5 [.int .u8],(.own 7000000))])],[],[7000000]⟩)] 6 Mo Tryz.func370 0
def Wn:Ax:=Aw [g_0,g_0] (fun d=>(Alg d.1 d.2.1).val) fun r=>([rv g_0 r],[])
theorem Xx:Fn Tryz.prog 319 .plain Wn:=Df [(370,.plain,Aha),(371,.plain,Ap0)] ⟨Asx,At5,trivial⟩ ⟨[(1,.v false [(.sl 5 [.int .u8],.ro)]),(5,.v false [(.sl 5 [.int .u8],(.own 8000000))]),(6,.v false [(.sl 5 [.int .u8],(.own 8000001))]),(7,.v false [(.sl 5 [.int .u8],(.own 8000002))]),(8,.v false [(.int .i64,.nil)])],[],[8000000,8000001,8000002]⟩ 8000000 [((.exit 0),⟨[(1,.v false [(.sl 5 [.int .u8],.ro)]),(6,.v false [(.sl 5 [.int .u8],(.own 8000000))]),(7,.v false [(.sl 5 [.int .u8],(.own 8000001))])],[],[8000000,8000001]⟩)] 7 Mp Tryz.func319 0
def Aal:Ax:=Aw [g_0,g_0] (fun d=>(Si d.1 d.2.1).val) fun r=>([rv g_0 r],[])
theorem Ahb:Fn Tryz.prog 226 .plain Aal:=mkF [(319,.plain,Wn)] ⟨Xx,trivial⟩ Tryz.func226 0
def Am5:Ax:=Aw [g_0,g_0,g_3] (fun d=>(Acq d.1 d.2.1 d.2.2.1).val) fun r=>([rv g_0 r.1,rv g_1 r.2],[])
theorem Aw5:Fn Tryz.prog 324 .plain Am5:=Df [(66,.plain,Db),(319,.plain,Wn)] ⟨C0,Xx,trivial⟩ ⟨[(0,.v false [(.sl 5 [.int .u8],.ro)]),(1,.v false [(.sl 5 [.int .u8],.ro)]),(2,.v false [(.int .i64,.nil)]),(8,.v false [(.sl 5 [.int .u8],(.own 7000000))]),(9,.v false [(.sl 5 [.int .u8],(.own 7000001))]),(10,.v false [(.int .i64,.nil)])],[],[7000000,7000001]⟩ 7000000 [((.exit 0),⟨[(2,.v false [(.int .i64,.nil)]),(8,.v false [(.sl 5 [.int .u8],(.own 7000000))])],[],[7000000]⟩)] 6 I9 Tryz.func324 0
def Qj:Ax:=Aw [g_0,g_6] (fun d=>(Acs d.1 d.2.1).val) fun r=>([rv g_0 r],[])
theorem S1:Fn Tryz.prog 225 .plain Qj:=mkF [(324,.plain,Am5)] ⟨Aw5,trivial⟩ Tryz.func225 0
def Af0:Ax:=Aw [g_0] (fun d=>(Tx d.1).val) fun r=>([rv g_0 r],[])
theorem Ap1:Fn Tryz.prog 82 .plain Af0:=mkF [(180,.plain,Xs),(226,.plain,Aal),(225,.plain,Qj)] ⟨Aef,Ahb,S1,trivial⟩ Tryz.func82 0
def Af1:Ax:=Aw [g_3,g_0,g_0,g_3,g_0] (fun d=>(T0 d.1 d.2.1 d.2.2.1 d.2.2.2.1 d.2.2.2.2.1).val) fun r=>([rv g_0 r],[])
theorem Ap2:Fn Tryz.prog 83 .plain Af1:=mkF [(66,.plain,Db),(217,.plain,Oi)] ⟨C0,Oz,trivial⟩ Tryz.func83 0
def Ap3:Ax:=Aw [g_0,g_0] (fun d=>(Apm d.1 d.2.1).val) fun r=>([rv g_0 r],[])
theorem At6:Fn Tryz.prog 215 .plain Ap3:=mkF [(319,.plain,Wn)] ⟨Xx,trivial⟩ Tryz.func215 0
def Arl:Ax:=Aw [g_0,g_3,g_0,g_0,g_3,g_0] (fun d=>(Agt d.1 d.2.1 d.2.2.1 d.2.2.2.1 d.2.2.2.2.1 d.2.2.2.2.2.1).val) fun r=>([rv g_0 r],[])
theorem A0d:Fn Tryz.prog 220 .plain Arl:=mkF [(82,.plain,Af0),(83,.plain,Af1),(215,.plain,Ap3)] ⟨Ap1,Ap2,At6,trivial⟩ Tryz.func220 0
def Aeg:Ax:=Aw [g_4] (fun d=>(Acu d.1).val) fun r=>([rv g_4 r],[])
theorem Aj5:Fn Tryz.prog 296 .plain Aeg:=mkF [] trivial Tryz.func296 0
def Ahc:Ax:=Aw [g_0,g_3,g_4] (fun d=>(Pp d.1 d.2.1 d.2.2.1).val) fun r=>([rv g_4 r.1,rv g_1 r.2],[])
theorem Asy:Fn Tryz.prog 263 .plain Ahc:=mkF [(185,.plain,Sz),(220,.plain,Arl),(296,.plain,Aeg)] ⟨Wk,A0d,Aj5,trivial⟩ Tryz.func263 0
def Hj:Ax:=Aw [g_2,g_5] (fun d=>(Agu d.1 d.2.1).val) fun r=>([rv g_3 r.1],[rv g_2 r.2])
theorem Hd:Fn Tryz.prog 127 (.box [3] true true) Hj:=mkF [(175,(.box [3] true true),D5)] ⟨Dy,trivial⟩ Tryz.func127 1
def Wo:Ax:=Aw [g_3] (fun d=>(Vm d.1).val) fun r=>([rv g_7 r],[])
theorem Xy:Fn Tryz.prog 197 .plain Wo:=mkF [(66,.plain,Db)] ⟨C0,trivial⟩ Tryz.func197 0
def U0:Ax:=Aw [g_7] (fun d=>(Acv d.1).val) fun r=>([rv g_1 r],[])
theorem Aam:Fn Tryz.prog 67 .plain U0:=mkF [(66,.plain,Db)] ⟨C0,trivial⟩ Tryz.func67 0
def Aj6:Ax:=Aw [g_0,g_0,g_0] (fun d=>(Zy d.1 d.2.1 d.2.2.1).val) fun r=>([rv g_0 r],[])
theorem At7:Fn Tryz.prog 322 .plain Aj6:=mkF [(180,.plain,Xs),(226,.plain,Aal)] ⟨Aef,Ahb,trivial⟩ Tryz.func322 0
def Ahd:Ax:=Aw [g_0] (fun d=>(Vn d.1).val) fun r=>([rv g_0 r],[])
theorem Asz:Fn Tryz.prog 321 .plain Ahd:=mkF [(225,.plain,Qj)] ⟨S1,trivial⟩ Tryz.func321 0
def Arm:Ax:=Aw [g_0,g_3] (fun d=>(Agv d.1 d.2.1).val) fun r=>([rv g_0 r],[])
theorem A0e:Fn Tryz.prog 323 .plain Arm:=Df [(66,.plain,Db),(225,.plain,Qj)] ⟨C0,S1,trivial⟩ ⟨[(1,.v false [(.int .i64,.nil)]),(5,.v false [(.sl 5 [.int .u8],(.own 6000000))]),(6,.v false [(.int .i64,.nil)])],[],[6000000]⟩ 6000000 [((.exit 0),⟨[(5,.v false [(.sl 5 [.int .u8],(.own 6000000))])],[],[6000000]⟩)] 5 K6 Tryz.func323 0
def Ahe:Ax:=Aw [g_0,g_0,g_0,g_3] (fun d=>(Vp d.1 d.2.1 d.2.2.1 d.2.2.2.1).val) fun r=>([rv g_0 r],[])
theorem As0:Fn Tryz.prog 222 .plain Ahe:=mkF [(322,.plain,Aj6),(321,.plain,Ahd),(323,.plain,Arm)] ⟨At7,Asz,A0e,trivial⟩ Tryz.func222 0
def Aeh:Ax:=Aw [] (fun d=>(Acw).val) fun r=>([rv g_8 r],[])
theorem Aj7:Fn Tryz.prog 360 .plain Aeh:=Df [] trivial ⟨[(0,.box 0 0),(1,.box 1 0),(2,.v false [(.int .i64,.nil)])],[(0,[(.int .i64,.nil),(.sl 3 [.int .i64],(.own 4000000))]),(1,[(.int .i64,.nil),(.sl 3 [.int .i64],(.own 4000001))])],[4000000,4000001]⟩ 4000000 [((.exit 0),⟨[(0,.box 0 0),(1,.box 1 0)],[(0,[(.int .i64,.nil),(.sl 3 [.int .i64],(.own 4000000))]),(1,[(.int .i64,.nil),(.sl 3 [.int .i64],(.own 4000001))])],[4000000,4000001]⟩)] 3 Jb Tryz.func360 0
def Xz:Ax:=Aw [g_3,g_0] (fun d=>(S7 d.1 d.2.1).val) fun r=>([rv g_9 r],[])
theorem Aei:Fn Tryz.prog 299 .plain Xz:=mkF [(66,.plain,Db),(360,.plain,Aeh)] ⟨C0,Aj7,trivial⟩ Tryz.func299 0
def Aan:Ax:=Aw [g_3,g_0,g_0] (fun d=>(Sl d.1 d.2.1 d.2.2.1).val) fun r=>([rv H5 r],[])
theorem Ahf:Fn Tryz.prog 221 .plain Aan:=mkF [(66,.plain,Db),(299,.plain,Xz)] ⟨C0,Aei,trivial⟩ Tryz.func221 0
def Wp:Ax:=Aw [g_7] (fun d=>(Agx d.1).val) fun r=>([rv Gf r],[])
theorem Af2:Fn Tryz.prog 223 .plain Wp:=mkF [] trivial Tryz.func223 0
def Aj8:Ax:=Aw [g_0,g_3,g_7,g_4] (fun d=>(Sm d.1 d.2.1 d.2.2.1 d.2.2.2.1).val) fun r=>([rv Rp r],[])
theorem At8:Fn Tryz.prog 79 .plain Aj8:=mkF [(180,.plain,Xs),(66,.plain,Db),(67,.plain,U0),(185,.plain,Sz),(222,.plain,Ahe),(221,.plain,Aan),(223,.plain,Wp)] ⟨Aef,C0,Aam,Wk,As0,Ahf,Af2,trivial⟩ Tryz.func79 0
def Ke:Ax:=Aw [g_2,g_3] (fun d=>(Acx d.1 d.2.1).val) fun r=>([rv g_1 r.1],[rv g_2 r.2])
theorem Lc:Fn Tryz.prog 167 (.box [3] true true) Ke:=mkF [(175,(.box [3] true true),D5)] ⟨Dy,trivial⟩ Tryz.func167 1
def Am6:Ax:=Aw [g_2,g_3] (fun d=>(Acy d.1 d.2.1).val) fun r=>([rv g_5 r.1],[rv g_2 r.2])
theorem Aw6:Fn Tryz.prog 379 (.box [3] true true) Am6:=Df [(127,(.box [3] true true),Hj),(175,(.box [3] true true),D5),(167,(.box [3] true true),Ke)] ⟨Hd,Dy,Lc,trivial⟩ ⟨[(0,.box 0 0),(5,.v false [(.sl 3 [.int .i64],(.own 5000000))]),(6,.v false [(.int .i64,.nil)]),(7,.v false [(.int .i64,.nil)])],[(0,[(.sl 5 [.int .u8],(.pin 0)),(.int .i64,.nil),(.int .i64,.nil)])],[5000000]⟩ 5000000 [((.exit 0),⟨[(0,.box 0 0),(5,.v false [(.sl 3 [.int .i64],(.own 5000000))])],[(0,[(.sl 5 [.int .u8],(.pin 0)),(.int .i64,.nil),(.int .i64,.nil)])],[5000000]⟩)] 4 Pq Tryz.func379 1
def Am7:Ax:=Aw [g_8] (fun d=>(Amz d.1).val) fun r=>([rv g_8 r],[])
theorem Aw7:Fn Tryz.prog 389 .plain Am7:=mkF [] trivial Tryz.func389 0
def Ahg:Ax:=Aw [g_8,g_3] (fun d=>(Agy d.1 d.2.1).val) fun r=>([rv g_1 r],[])
theorem Am8:Fn Tryz.prog 390 .plain Ahg:=mkF [] trivial Tryz.func390 0
def Arn:Ax:=Aw [g_8] (fun d=>(Xh d.1).val) fun r=>([rv g_1 r],[])
def Tc:Fns:=[(66,.plain,Db),(390,.plain,Ahg)]
theorem Ahh:CfgOk Tryz.prog (D8 Tc):=Gx Oa Kv (show Lm Tryz.prog Tc from⟨C0,Am8,trivial⟩)
def Ahi:Sk:=⟨[(1,.box 1 0),(4,.v false [(.int .i64,.nil)])],[(1,[(.int .i64,.nil),(.sl 3 [.int .i64],.ro)])],[]⟩
def Ahj:List (Ex×Sk):=[(.ret,⟨[(2,.v false [(.bool,.nil)])],[],[]⟩),((.exit 2),⟨[],[],[]⟩)]
def Aj9:Sk:=⟨[(1,.box 1 0),(3,.v false [(.int .i64,.nil)])],[(1,[(.int .i64,.nil),(.sl 3 [.int .i64],.ro)])],[]⟩
def Aka:List (Ex×Sk):=[(.ret,⟨[(2,.v false [(.bool,.nil)])],[],[]⟩),((.exit 0),⟨[(1,.box 1 0)],[(1,[(.int .i64,.nil),(.sl 3 [.int .i64],.ro)])],[]⟩)]
def Td:Fv:=fun i st=>cond (Nat.beq i 4) (lam Aj9 5000000 Aka I1 st) <| cond (Nat.beq i 11) (lam Ahi 12000000 Ahj Ge st) <| .fail
theorem At9 (cx:Cx) (hp:cx.pin.length≤0):Dz Tryz.prog cx Tryz.f364.ntmps Td (Ba Tryz.f364 0):=Fs Ahh hp (Do (by kernel_rfl:Bs (Ba Tryz.f364 0)=[]) trivial) (by kernel_rfl) (fun d=>(by kernel_rfl:bod (D8 Tc) 0 Tryz.f364.ntmps Td (Ba Tryz.f364 0) Aj9 5000000 Aka d=I1 d))
theorem As1 (cx:Cx) (hp:cx.pin.length≤0):Dz Tryz.prog cx Tryz.f364.ntmps Td (Ba Tryz.f364 1):=Fs Ahh hp (Do (by kernel_rfl:Bs (Ba Tryz.f364 1)=[]) trivial) (by kernel_rfl) (fun d=>(by kernel_rfl:bod (D8 Tc) 0 Tryz.f364.ntmps Td (Ba Tryz.f364 1) Ahi 12000000 Ahj d=Ge d))
theorem A0f:Fn Tryz.prog 364 .plain Arn:=Qh Ahh Tryz.func364 (by kernel_rfl) (by kernel_rfl) (fun cx b hp hb=>Do (by kernel_rfl:Bs (Tryz.f364.body.getD .skip)=[Ba Tryz.f364 0,Ba Tryz.f364 1]) ⟨At9 cx hp,As1 cx hp,trivial⟩ b hb) (fun d=>(by kernel_rfl:H2 (D8 Tc) 0 Td Tryz.f364 .plain (mkA [g_8] d)=(Xh d.1).run fun r=>some ([rv g_1 r],[])))
def Akb:Ax:=Aw [g_3] (fun d=>(Z0 d.1).val) fun r=>([rv g_3 r],[])
theorem Aua:Fn Tryz.prog 391 .plain Akb:=mkF [] trivial Tryz.func391 0
def Am9:Ax:=Aw [g_8,g_3] (fun d=>(Ac0 d.1 d.2.1).val) fun r=>([rv g_1 r],[])
theorem Aw8:Fn Tryz.prog 365 .plain Am9:=mkF [(364,.plain,Arn),(66,.plain,Db),(391,.plain,Akb),(390,.plain,Ahg)] ⟨A0f,C0,Aua,Am8,trivial⟩ Tryz.func365 0
def Ana:Ax:=Aw [g_8,g_3] (fun d=>(Ac2 d.1 d.2.1).val) fun r=>([rv g_8 r.1,rv g_1 r.2],[])
theorem Aw9:Fn Tryz.prog 367 .plain Ana:=Df [(389,.plain,Am7),(365,.plain,Am9)] ⟨Aw7,Aw8,trivial⟩ ⟨[(1,.v false [(.int .i64,.nil)]),(2,.box 2 0),(4,.box 4 0),(6,.box 6 0),(7,.v false [(.int .i64,.nil)]),(8,.v false [(.int .i64,.nil)])],[(2,[(.int .i64,.nil),(.sl 3 [.int .i64],.ro)]),(4,[(.int .i64,.nil),(.sl 3 [.int .i64],(.own 7000000))]),(6,[(.int .i64,.nil),(.sl 3 [.int .i64],(.own 7000001))])],[7000000,7000001]⟩ 7000000 [((.exit 0),⟨[(1,.v false [(.int .i64,.nil)]),(2,.box 2 0),(4,.box 4 0),(6,.box 6 0)],[(2,[(.int .i64,.nil),(.sl 3 [.int .i64],.ro)]),(4,[(.int .i64,.nil),(.sl 3 [.int .i64],(.own 7000000))]),(6,[(.int .i64,.nil),(.sl 3 [.int .i64],(.own 7000001))])],[7000000,7000001]⟩)] 6 Jc Tryz.func367 0
def Aro:Ax:=Aw [g_5] (fun d=>(Xi d.1).val) fun r=>([rv g_8 r],[])
theorem A0g:Fn Tryz.prog 378 .plain Aro:=Df [(360,.plain,Aeh),(367,.plain,Ana)] ⟨Aj7,Aw9,trivial⟩ ⟨[(0,.v false [(.sl 3 [.int .i64],.ro)]),(2,.box 2 0),(3,.box 3 0),(4,.v false [(.int .i64,.nil)])],[(2,[(.int .i64,.nil),(.sl 3 [.int .i64],(.own 4000000))]),(3,[(.int .i64,.nil),(.sl 3 [.int .i64],(.own 4000001))])],[4000000,4000001]⟩ 4000000 [((.exit 0),⟨[(2,.box 2 0),(3,.box 3 0)],[(2,[(.int .i64,.nil),(.sl 3 [.int .i64],(.own 4000000))]),(3,[(.int .i64,.nil),(.sl 3 [.int .i64],(.own 4000001))])],[4000000,4000001]⟩)] 3 Ng Tryz.func378 0
def Anb:Ax:=Aw [g_2] (fun d=>(Uo d.1).val) fun r=>([rv g_8 r.1],[rv g_2 r.2])
theorem Axa:Fn Tryz.prog 342 (.box [3] true true) Anb:=mkF [(379,(.box [3] true true),Am6),(378,.plain,Aro)] ⟨Aw6,A0g,trivial⟩ Tryz.func342 1
def Akc:Ax:=Aw [g_2,g_3] (fun d=>(So d.1 d.2.1).val) fun r=>([rv H5 r.1],[rv g_2 r.2])
theorem Aub:Fn Tryz.prog 264 (.box [3] true true) Akc:=mkF [(128,(.box [3] true true),I3),(221,.plain,Aan),(127,(.box [3] true true),Hj),(167,(.box [3] true true),Ke),(342,(.box [3] true true),Anb),(225,.plain,Qj),(299,.plain,Xz)] ⟨Jo,Ahf,Hd,Lc,Axa,S1,Aei,trivial⟩ Tryz.func264 1
def Aao:Ax:=Aw [Gf] (fun d=>(Sp d.1).val) fun r=>([rv g_1 r],[])
def Nk:Fns:=[(67,.plain,U0),(66,.plain,Db)]
theorem Aap:CfgOk Tryz.prog (D8 Nk):=Gx Oa Kv (show Lm Tryz.prog Nk from⟨Aam,C0,trivial⟩)
def Af3:Sk:=⟨[(1,.box 1 0),(3,.v false [(.int .i64,.nil)])],[(1,[(.int .i64,.nil),(.int .i64,.nil),(.sl 86 h_5,.ro)])],[]⟩
def Af4:List (Ex×Sk):=[(.ret,⟨[(2,.v false [(.bool,.nil)])],[],[]⟩),((.exit 0),⟨[],[],[]⟩)]
def Abr:Sk:=⟨[(1,.box 1 0),(3,.v false [(.int .i64,.nil)]),(4,.box 4 0),(5,.v false [(.int .i64,.nil)])],[(1,[(.int .i64,.nil),(.int .i64,.nil),(.sl 86 h_5,.ro)]),(4,[(.int .i64,.nil),(.int .i64,.nil),(.sl 5 [.int .u8],.ro),(.int .i64,.nil)])],[]⟩
def Abs:List (Ex×Sk):=[(.ret,⟨[(2,.v false [(.bool,.nil)])],[],[]⟩),((.exit 2),⟨[(1,.box 1 0),(3,.v false [(.int .i64,.nil)])],[(1,[(.int .i64,.nil),(.int .i64,.nil),(.sl 86 h_5,.ro)])],[]⟩)]
def Nl:Fv:=fun i st=>cond (Nat.beq i 10) (lam Abr 11000000 Abs F0 st) <| cond (Nat.beq i 4) (lam Af3 5000000 Af4 H9 st) <| .fail
theorem Anc (cx:Cx) (hp:cx.pin.length≤0):Dz Tryz.prog cx Tryz.f198.ntmps Nl (Ba Tryz.f198 1):=Fs Aap hp (Do (by kernel_rfl:Bs (Ba Tryz.f198 1)=[]) trivial) (by kernel_rfl) (fun d=>(by kernel_rfl:bod (D8 Nk) 0 Tryz.f198.ntmps Nl (Ba Tryz.f198 1) Abr 11000000 Abs d=F0 d))
theorem Ap4 (cx:Cx) (hp:cx.pin.length≤0):Dz Tryz.prog cx Tryz.f198.ntmps Nl (Ba Tryz.f198 0):=Fs Aap hp (Do (by kernel_rfl:Bs (Ba Tryz.f198 0)=[Ba Tryz.f198 1]) ⟨Anc cx hp,trivial⟩) (by kernel_rfl) (fun d=>(by kernel_rfl:bod (D8 Nk) 0 Tryz.f198.ntmps Nl (Ba Tryz.f198 0) Af3 5000000 Af4 d=H9 d))
theorem Ahk:Fn Tryz.prog 198 .plain Aao:=Qh Aap Tryz.func198 (by kernel_rfl) (by kernel_rfl) (fun cx b hp hb=>Do (by kernel_rfl:Bs (Tryz.f198.body.getD .skip)=[Ba Tryz.f198 0]) ⟨Ap4 cx hp,trivial⟩ b hb) (fun d=>(by kernel_rfl:H2 (D8 Nk) 0 Nl Tryz.f198 .plain (mkA [Gf] d)=(Sp d.1).run fun r=>some ([rv g_1 r],[])))
def Aaq:Ax:=Aw [A4m] (fun d=>(Z1 d.1).val) fun r=>([rv A4m r],[])
theorem Ahl:Fn Tryz.prog 314 .plain Aaq:=mkF [] trivial Tryz.func314 0
def Aar:Ax:=Aw [Gf] (fun d=>(Z2 d.1).val) fun r=>([rv Gf r],[])
theorem Ahm:Fn Tryz.prog 310 .plain Aar:=Df [(314,.plain,Aaq)] ⟨Ahl,trivial⟩ ⟨[(1,.box 1 0),(2,.box 2 0),(3,.box 3 0),(4,.v false [(.int .i64,.nil)])],[(1,[(.int .i64,.nil),(.int .i64,.nil),(.sl 86 h_5,.ro)]),(2,[(.int .i64,.nil),(.int .i64,.nil),(.sl 86 h_5,(.own 4000000))]),(3,[(.int .i64,.nil),(.int .i64,.nil),(.sl 86 h_5,(.own 4000001))])],[4000000,4000001]⟩ 4000000 [((.exit 0),⟨[(2,.box 2 0),(3,.box 3 0)],[(2,[(.int .i64,.nil),(.int .i64,.nil),(.sl 86 h_5,(.own 4000000))]),(3,[(.int .i64,.nil),(.int .i64,.nil),(.sl 86 h_5,(.own 4000001))])],[4000000,4000001]⟩)] 3 Ia Tryz.func310 0
def Ahn:Ax:=Aw [Gf,g_3] (fun d=>(Vr d.1 d.2.1).val) fun r=>([rv Gf r],[])
theorem As2:Fn Tryz.prog 316 .plain Ahn:=Df [(198,.plain,Aao),(66,.plain,Db),(310,.plain,Aar),(314,.plain,Aaq)] ⟨Ahk,C0,Ahm,Ahl,trivial⟩ ⟨[(1,.v false [(.int .i64,.nil)]),(2,.box 2 0),(4,.box 4 0),(5,.box 5 0),(6,.v false [(.int .i64,.nil)])],[(2,[(.int .i64,.nil),(.int .i64,.nil),(.sl 86 h_5,.ro)]),(4,[(.int .i64,.nil),(.int .i64,.nil),(.sl 86 h_5,(.own 6000000))]),(5,[(.int .i64,.nil),(.int .i64,.nil),(.sl 86 h_5,(.own 6000001))])],[6000000,6000001]⟩ 6000000 [((.exit 0),⟨[(4,.box 4 0),(5,.box 5 0)],[(4,[(.int .i64,.nil),(.int .i64,.nil),(.sl 86 h_5,(.own 6000000))]),(5,[(.int .i64,.nil),(.int .i64,.nil),(.sl 86 h_5,(.own 6000001))])],[6000000,6000001]⟩)] 5 Ho Tryz.func316 0
def Arp:Ax:=Aw [Gf,g_3,g_7,g_0] (fun d=>(Ag0 d.1 d.2.1 d.2.2.1 d.2.2.2.1).val) fun r=>([rv Gf r.1,rv g_1 r.2],[])
theorem A0h:Fn Tryz.prog 195 .plain Arp:=Df [(198,.plain,Aao),(66,.plain,Db),(67,.plain,U0),(310,.plain,Aar),(316,.plain,Ahn)] ⟨Ahk,C0,Aam,Ahm,As2,trivial⟩ ⟨[(1,.v false [(.int .i64,.nil)]),(3,.v false [(.sl 5 [.int .u8],.ro)]),(4,.box 4 0),(6,.box 6 0),(8,.box 8 0),(10,.box 10 0),(11,.v false [(.int .i64,.nil)])],[(4,[(.int .i64,.nil),(.int .i64,.nil),(.sl 86 h_5,.ro)]),(6,[(.int .i64,.nil),(.int .i64,.nil)]),(8,[(.int .i64,.nil),(.int .i64,.nil),(.sl 86 h_5,(.own 6000000))]),(10,[(.int .i64,.nil),(.int .i64,.nil),(.sl 86 h_5,(.own 6000001))])],[6000000,6000001]⟩ 6000000 [(.ret,⟨[(8,.box 8 0),(9,.v false [(.bool,.nil)])],[(8,[(.int .i64,.nil),(.int .i64,.nil),(.sl 86 h_5,(.own 6000000))])],[6000000]⟩),((.exit 0),⟨[(1,.v false [(.int .i64,.nil)]),(3,.v false [(.sl 5 [.int .u8],.ro)]),(4,.box 4 0),(6,.box 6 0),(8,.box 8 0),(10,.box 10 0)],[(4,[(.int .i64,.nil),(.int .i64,.nil),(.sl 86 h_5,.ro)]),(6,[(.int .i64,.nil),(.int .i64,.nil)]),(8,[(.int .i64,.nil),(.int .i64,.nil),(.sl 86 h_5,(.own 6000000))]),(10,[(.int .i64,.nil),(.int .i64,.nil),(.sl 86 h_5,(.own 6000001))])],[6000000,6000001]⟩)] 5 K7 Tryz.func195 0
def Akd:Ax:=Aw [g_2] (fun d=>(Ss d.1).val) fun r=>([rv Gf r.1],[rv g_2 r.2])
theorem Auc:Fn Tryz.prog 265 (.box [3] true true) Akd:=Df [(175,(.box [3] true true),D5),(197,.plain,Wo),(223,.plain,Wp),(128,(.box [3] true true),I3),(195,.plain,Arp)] ⟨Dy,Xy,Af2,Jo,A0h,trivial⟩ ⟨[(0,.box 0 0),(2,.box 2 0),(3,.box 3 0),(4,.v false [(.int .i64,.nil)]),(5,.v false [(.int .i64,.nil)])],[(0,[(.sl 5 [.int .u8],(.pin 0)),(.int .i64,.nil),(.int .i64,.nil)]),(2,[(.int .i64,.nil),(.int .i64,.nil),(.sl 86 h_5,(.own 5000000))]),(3,[(.int .i64,.nil),(.int .i64,.nil),(.sl 86 h_5,(.own 5000001))])],[5000000,5000001]⟩ 5000000 [((.exit 0),⟨[(0,.box 0 0),(2,.box 2 0),(3,.box 3 0)],[(0,[(.sl 5 [.int .u8],(.pin 0)),(.int .i64,.nil),(.int .i64,.nil)]),(2,[(.int .i64,.nil),(.int .i64,.nil),(.sl 86 h_5,(.own 5000000))]),(3,[(.int .i64,.nil),(.int .i64,.nil),(.sl 86 h_5,(.own 5000001))])],[5000000,5000001]⟩)] 4 N5 Tryz.func265 1
def Ake:Ax:=Aw [g_2] (fun d=>(Su d.1).val) fun r=>([rv Rp r.1],[rv g_2 r.2])
theorem Aud:Fn Tryz.prog 125 (.box [3] true false) Ake:=mkF [(128,(.box [3] true true),I3),(175,(.box [3] true true),D5),(173,(.box [3] true true),Afz),(263,.plain,Ahc),(127,(.box [3] true true),Hj),(197,.plain,Wo),(79,.plain,Aj8),(167,(.box [3] true true),Ke),(264,(.box [3] true true),Akc),(265,(.box [3] true true),Akd)] ⟨Jo,Dy,Apy,Asy,Hd,Xy,At8,Lc,Aub,Auc,trivial⟩ Tryz.func125 1
def Ane:Ax:=Aw [g_2] (fun d=>(Ac3 d.1).val) fun r=>([rv g_3 r.1,rv g_0 r.2.1],[rv g_2 r.2.2])
theorem Axb:Fn Tryz.prog 298 (.box [3] true true) Ane:=mkF [(175,(.box [3] true true),D5),(128,(.box [3] true true),I3),(127,(.box [3] true true),Hj)] ⟨Dy,Jo,Hd,trivial⟩ Tryz.func298 1
def Aej:Ax:=Aw [g_3,g_0,g_3,g_3] (fun d=>(Ac5 d.1 d.2.1 d.2.2.1 d.2.2.2.1).val) fun r=>([rv g_0 r],[])
theorem Akf:Fn Tryz.prog 312 .plain Aej:=mkF [(66,.plain,Db),(217,.plain,Oi)] ⟨C0,Oz,trivial⟩ Tryz.func312 0
def Akg:Ax:=Aw [g_0,g_0,g_3] (fun d=>(Z3 d.1 d.2.1 d.2.2.1).val) fun r=>([rv g_0 r],[])
theorem Aue:Fn Tryz.prog 405 .plain Akg:=mkF [(66,.plain,Db),(217,.plain,Oi),(319,.plain,Wn)] ⟨C0,Oz,Xx,trivial⟩ Tryz.func405 0
def Anf:Ax:=Aw [g_0,g_0,g_3] (fun d=>(Ac6 d.1 d.2.1 d.2.2.1).val) fun r=>([rv g_0 r],[])
theorem Axc:Fn Tryz.prog 380 .plain Anf:=Df [(66,.plain,Db),(405,.plain,Akg)] ⟨C0,Aue,trivial⟩ ⟨[(0,.v false [(.sl 5 [.int .u8],.ro)]),(1,.v false [(.sl 5 [.int .u8],.ro)]),(2,.v false [(.int .i64,.nil)]),(7,.v false [(.sl 5 [.int .u8],(.own 6000000))]),(8,.v false [(.int .i64,.nil)])],[],[6000000]⟩ 6000000 [((.exit 0),⟨[(2,.v false [(.int .i64,.nil)]),(7,.v false [(.sl 5 [.int .u8],(.own 6000000))])],[],[6000000]⟩)] 5 Jd Tryz.func380 0
def Ayy:Ax:=Aw [g_0,g_0,g_0] (fun d=>(Apn d.1 d.2.1 d.2.2.1).val) fun r=>([rv g_0 r],[])
theorem A4s:Fn Tryz.prog 343 .plain Ayy:=Df [(380,.plain,Anf)] ⟨Axc,trivial⟩ ⟨[(2,.v false [(.sl 5 [.int .u8],.ro)]),(7,.v false [(.sl 5 [.int .u8],(.own 7000000))]),(8,.v false [(.sl 5 [.int .u8],(.own 7000001))]),(9,.v false [(.int .i64,.nil)])],[],[7000000,7000001]⟩ 7000000 [((.exit 0),⟨[(7,.v false [(.sl 5 [.int .u8],(.own 7000000))])],[],[7000000]⟩)] 6 Ox Tryz.func343 0
def Aho:Ax:=Aw [g_3,g_4] (fun d=>(Vt d.1 d.2.1).val) fun r=>([rv g_0 r],[])
theorem As3:Fn Tryz.prog 190 .plain Aho:=mkF [(66,.plain,Db),(185,.plain,Sz),(86,.plain,Uz),(312,.plain,Aej)] ⟨C0,Wk,Aak,Akf,trivial⟩ Tryz.func190 0
def Alw:Ax:=Aw [g_0,g_3,g_0,g_3,g_3,g_3,g_0] (fun d=>(Ac8 d.1 d.2.1 d.2.2.1 d.2.2.2.1 d.2.2.2.2.1 d.2.2.2.2.2.1 d.2.2.2.2.2.2.1).val) fun r=>([rv g_4 r.1,rv g_1 r.2],[])
def Aek:Fns:=[(312,.plain,Aej),(86,.plain,Uz),(307,.plain,Aee),(343,.plain,Ayy),(190,.plain,Aho),(215,.plain,Ap3)]
theorem Auf:CfgOk Tryz.prog (D8 Aek):=Gx Oa Kv (show Lm Tryz.prog Aek from⟨Akf,Aak,Aj3,A4s,As3,At6,trivial⟩)
def Ang:Sk:=⟨[(0,.v false [(.sl 5 [.int .u8],.ro)]),(1,.v false [(.int .i64,.nil)]),(14,.box 14 0),(17,.box 17 0),(18,.v false [(.int .i64,.nil)])],[(14,[(.int .i64,.nil),(.int .i64,.nil),(.sl 5 [.int .u8],(.own 7000000)),(.sl 5 [.int .u8],(.own 7000001)),(.int .i64,.nil),(.sl 5 [.int .u8],(.own 7000002)),(.sl 5 [.int .u8],(.own 7000003)),(.int .i64,.nil),(.int .i64,.nil),(.sl 5 [.int .u8],(.own 7000004)),(.sl 5 [.int .u8],(.own 7000005))]),(17,[(.int .i64,.nil),(.int .i64,.nil),(.sl 5 [.int .u8],(.own 7000006)),(.sl 5 [.int .u8],(.own 7000007)),(.int .i64,.nil),(.sl 5 [.int .u8],(.own 7000008)),(.sl 5 [.int .u8],(.own 7000009)),(.int .i64,.nil),(.int .i64,.nil),(.sl 5 [.int .u8],(.own 7000010)),(.sl 5 [.int .u8],(.own 7000011))])],[7000000,7000001,7000002,7000003,7000004,7000005,7000006,7000007,7000008,7000009,7000010,7000011]⟩
def Anh:List (Ex×Sk):=[((.exit 0),⟨[(0,.v false [(.sl 5 [.int .u8],.ro)]),(1,.v false [(.int .i64,.nil)]),(14,.box 14 0),(17,.box 17 0)],[(14,[(.int .i64,.nil),(.int .i64,.nil),(.sl 5 [.int .u8],(.own 7000000)),(.sl 5 [.int .u8],(.own 7000001)),(.int .i64,.nil),(.sl 5 [.int .u8],(.own 7000002)),(.sl 5 [.int .u8],(.own 7000003)),(.int .i64,.nil),(.int .i64,.nil),(.sl 5 [.int .u8],(.own 7000004)),(.sl 5 [.int .u8],(.own 7000005))]),(17,[(.int .i64,.nil),(.int .i64,.nil),(.sl 5 [.int .u8],(.own 7000006)),(.sl 5 [.int .u8],(.own 7000007)),(.int .i64,.nil),(.sl 5 [.int .u8],(.own 7000008)),(.sl 5 [.int .u8],(.own 7000009)),(.int .i64,.nil),(.int .i64,.nil),(.sl 5 [.int .u8],(.own 7000010)),(.sl 5 [.int .u8],(.own 7000011))])],[7000000,7000001,7000002,7000003,7000004,7000005,7000006,7000007,7000008,7000009,7000010,7000011]⟩)]
def Alx:Fv:=fun i st=>cond (Nat.beq i 6) (lam Ang 7000000 Anh Ka st) <| .fail
theorem Axd (cx:Cx) (hp:cx.pin.length≤0):Dz Tryz.prog cx Tryz.f266.ntmps Alx (Ba Tryz.f266 0):=Fs Auf hp (Do (by kernel_rfl:Bs (Ba Tryz.f266 0)=[]) trivial) (by kernel_rfl) (fun d=>(by kernel_rfl:bod (D8 Aek) 0 Tryz.f266.ntmps Alx (Ba Tryz.f266 0) Ang 7000000 Anh d=Ka d))
theorem Arq:Fn Tryz.prog 266 .plain Alw:=Qh Auf Tryz.func266 (by kernel_rfl) (by kernel_rfl) (fun cx b hp hb=>Do (by kernel_rfl:Bs (Tryz.f266.body.getD .skip)=[Ba Tryz.f266 0]) ⟨Axd cx hp,trivial⟩ b hb) (fun d=>(by kernel_rfl:H2 (D8 Aek) 0 Alx Tryz.f266 .plain (mkA [g_0,g_3,g_0,g_3,g_3,g_3,g_0] d)=(Ac8 d.1 d.2.1 d.2.2.1 d.2.2.2.1 d.2.2.2.2.1 d.2.2.2.2.2.1 d.2.2.2.2.2.2.1).run fun r=>some ([rv g_4 r.1,rv g_1 r.2],[])))
def Ani:Ax:=Aw [g_2,g_0] (fun d=>(Ac9 d.1 d.2.1).val) fun r=>([rv g_0 r.1],[rv g_2 r.2])
theorem Axe:Fn Tryz.prog 301 (.box [3] true true) Ani:=mkF [(175,(.box [3] true true),D5),(269,(.box [3] true true),Qi)] ⟨Dy,Sy,trivial⟩ Tryz.func301 1
def Anj:Ax:=Aw [g_2,g_4] (fun d=>(Ada d.1 d.2.1).val) fun r=>([rv g_4 r.1],[rv g_2 r.2])
theorem Axf:Fn Tryz.prog 177 (.box [3] true true) Anj:=mkF [(296,.plain,Aeg),(175,(.box [3] true true),D5),(127,(.box [3] true true),Hj),(301,(.box [3] true true),Ani)] ⟨Aj5,Dy,Hd,Axe,trivial⟩ Tryz.func177 1
def Ahp:Ax:=Aw [g_2,H5] (fun d=>(Vv d.1 d.2.1).val) fun r=>([rv g_4 r.1],[rv g_2 r.2])
theorem As4:Fn Tryz.prog 174 (.box [3] true true) Ahp:=mkF [(298,(.box [3] true true),Ane),(167,(.box [3] true true),Ke),(299,.plain,Xz),(127,(.box [3] true true),Hj),(266,.plain,Alw),(177,(.box [3] true true),Anj)] ⟨Axb,Lc,Aei,Hd,Arq,Axf,trivial⟩ Tryz.func174 1
def Af5:Ax:=Aw [g_3] (fun d=>(T5 d.1).val) fun r=>([rv g_0 r],[])
theorem Ap5:Fn Tryz.prog 267 .plain Af5:=mkF [(66,.plain,Db),(217,.plain,Oi)] ⟨C0,Oz,trivial⟩ Tryz.func267 0
def Ank:Ax:=Aw [g_2] (fun d=>(Adb d.1).val) fun r=>([rv g_7 r.1],[rv g_2 r.2])
theorem Axg:Fn Tryz.prog 344 (.box [3] true true) Ank:=mkF [(167,(.box [3] true true),Ke),(175,(.box [3] true true),D5),(269,(.box [3] true true),Qi),(197,.plain,Wo)] ⟨Lc,Dy,Sy,Xy,trivial⟩ Tryz.func344 1
def Arr:Ax:=Aw [g_2] (fun d=>(Ag1 d.1).val) fun r=>([rv g_3 r.1],[rv g_2 r.2])
theorem A0i:Fn Tryz.prog 345 (.box [3] true true) Arr:=mkF [(127,(.box [3] true true),Hj)] ⟨Hd,trivial⟩ Tryz.func345 1
def Ars:Ax:=Aw [g_2] (fun d=>(Ag3 d.1).val) fun r=>([rv g_7 r.1],[rv g_2 r.2])
theorem A0j:Fn Tryz.prog 268 (.box [3] true true) Ars:=mkF [(344,(.box [3] true true),Ank),(175,(.box [3] true true),D5),(345,(.box [3] true true),Arr),(127,(.box [3] true true),Hj)] ⟨Axg,Dy,A0i,Hd,trivial⟩ Tryz.func268 1
def Ahq:Ax:=Aw [g_2,Rp] (fun d=>(Vw d.1 d.2.1).val) fun r=>([rv g_7 r.1,rv g_4 r.2.1],[rv g_2 r.2.2])
theorem As5:Fn Tryz.prog 126 (.box [3] true false) Ahq:=mkF [(167,(.box [3] true true),Ke),(175,(.box [3] true true),D5),(197,.plain,Wo),(174,(.box [3] true true),Ahp),(266,.plain,Alw),(267,.plain,Af5),(268,(.box [3] true true),Ars)] ⟨Lc,Dy,Xy,As4,Arq,Ap5,A0j,trivial⟩ Tryz.func126 1
def Ahr:Ax:=Aw [g_0] (fun d=>(Vy d.1).val) fun r=>([rv Rp r.1,rv g_3 r.2.1,rv g_7 r.2.2.1,rv g_4 r.2.2.2.1,rv g_0 r.2.2.2.2],[])
theorem As6:Fn Tryz.prog 27 .view Ahr:=mkF [(124,.ret,Ari),(125,(.box [3] true false),Ake),(126,(.box [3] true false),Ahq),(127,(.box [3] true true),Hj),(128,(.box [3] true true),I3)] ⟨A0a,Aud,As5,Hd,Jo,trivial⟩ Tryz.func27 0
def Dm:Ax:=Aw [g_0] (fun d=>(Ag4 d.1).val) fun r=>([rv g_0 r],[])
theorem Dg:Fn Tryz.prog 134 .plain Dm:=mkF [] trivial Tryz.func134 0
def Aas:Ax:=Aw [g_8] (fun d=>(Z5 d.1).val) fun r=>([rv g_8 r],[])
theorem Ahs:Fn Tryz.prog 381 .plain Aas:=mkF [] trivial Tryz.func381 0
def U1:Ax:=Aw [g_9] (fun d=>(Ade d.1).val) fun r=>([rv g_9 r],[])
theorem Aat:Fn Tryz.prog 346 .plain U1:=mkF [(134,.plain,Dm),(381,.plain,Aas)] ⟨Dg,Ahs,trivial⟩ Tryz.func346 0
def Hy:Ax:=Aw [H5] (fun d=>(V0 d.1).val) fun r=>([rv H5 r],[])
theorem Ig:Fn Tryz.prog 270 .plain Hy:=mkF [(134,.plain,Dm),(346,.plain,U1)] ⟨Dg,Aat,trivial⟩ Tryz.func270 0
def Ih:Ax:=Aw [Gf] (fun d=>(T6 d.1).val) fun r=>([rv Gf r],[])
theorem Jp:Fn Tryz.prog 150 .plain Ih:=Df [(134,.plain,Dm)] ⟨Dg,trivial⟩ ⟨[(2,.box 2 0),(3,.box 3 0),(10,.v false [(.sl 86 h_5,.ro)]),(11,.v false [(.int .i64,.nil)]),(12,.v false [(.int .i64,.nil)])],[(2,[(.int .i64,.nil),(.int .i64,.nil),(.sl 86 h_5,(.own 4000000))]),(3,[(.int .i64,.nil),(.int .i64,.nil),(.sl 86 h_5,(.own 4000001))])],[4000000,4000001]⟩ 4000000 [((.exit 0),⟨[(2,.box 2 0),(3,.box 3 0)],[(2,[(.int .i64,.nil),(.int .i64,.nil),(.sl 86 h_5,(.own 4000000))]),(3,[(.int .i64,.nil),(.int .i64,.nil),(.sl 86 h_5,(.own 4000001))])],[4000000,4000001]⟩)] 3 Gp Tryz.func150 0
def Aht:Ax:=Aw [Rp] (fun d=>(V2 d.1).val) fun r=>([rv Rp r],[])
theorem As7:Fn Tryz.prog 129 .plain Aht:=mkF [(134,.plain,Dm),(270,.plain,Hy),(150,.plain,Ih)] ⟨Dg,Ig,Jp,trivial⟩ Tryz.func129 0
def Cd:Ax:=Aw [g_3,g_3,g_3] (fun d=>(Adf d.1 d.2.1 d.2.2.1).val) fun r=>([rv g_1 r],[])
theorem B9:Fn Tryz.prog 95 .plain Cd:=mkF [] trivial Tryz.func95 0
def I4:Ax:=Aw [g_0] (fun d=>(Aj0 d.1).val) fun r=>([rv g_1 r],[])
theorem Jq:Fn Tryz.prog 140 .plain I4:=mkF [] trivial Tryz.func140 0
def Ii:Ax:=Aw [g_0,g_0] (fun d=>(Afw d.1 d.2.1).val) fun r=>([rv g_1 r],[])
theorem Jr:Fn Tryz.prog 143 .plain Ii:=mkF [] trivial Tryz.func143 0
def Ahu:Ax:=Aw [g_5,g_5] (fun d=>(V4 d.1 d.2.1).val) fun r=>([rv g_1 r],[])
theorem As8:Fn Tryz.prog 352 .plain Ahu:=Df [] trivial ⟨[(1,.v false [(.sl 3 [.int .i64],.ro)]),(12,.v false [(.sl 3 [.int .i64],.ro)]),(13,.v false [(.int .i64,.nil)]),(14,.v false [(.int .i64,.nil)])],[],[]⟩ 5000000 [(.ret,⟨[(4,.v false [(.bool,.nil)])],[],[]⟩),((.exit 0),⟨[],[],[]⟩)] 4 Abi Tryz.func352 0
def Ael:Ax:=Aw [g_9,g_9] (fun d=>(Adg d.1 d.2.1).val) fun r=>([rv g_1 r],[])
theorem Akh:Fn Tryz.prog 280 .plain Ael:=mkF [(143,.plain,Ii),(352,.plain,Ahu)] ⟨Jr,As8,trivial⟩ Tryz.func280 0
def Abt:Ax:=Aw [H5] (fun d=>(Rj d.1).val) fun r=>([rv g_1 r],[])
theorem Anl:Fn Tryz.prog 141 .plain Abt:=mkF [(280,.plain,Ael)] ⟨Akh,trivial⟩ Tryz.func141 0
def Qk:Ax:=Aw [g_3] (fun d=>(Adh d.1).val) fun r=>([rv g_1 r],[])
theorem S2:Fn Tryz.prog 274 .plain Qk:=mkF [] trivial Tryz.func274 0
def Ql:Ax:=Aw [g_5,g_3] (fun d=>(V6 d.1 d.2.1).val) fun r=>([rv g_1 r],[])
theorem Ud:Fn Tryz.prog 384 .plain Ql:=Df [(95,.plain,Cd)] ⟨B9,trivial⟩ ⟨[(0,.v false [(.sl 3 [.int .i64],.ro)]),(1,.v false [(.int .i64,.nil)]),(7,.v false [(.sl 3 [.int .i64],.ro)]),(8,.v false [(.int .i64,.nil)]),(9,.v false [(.int .i64,.nil)])],[],[]⟩ 3000000 [(.ret,⟨[(4,.v false [(.bool,.nil)])],[],[]⟩),((.exit 0),⟨[(0,.v false [(.sl 3 [.int .i64],.ro)]),(1,.v false [(.int .i64,.nil)])],[],[]⟩)] 2 Je Tryz.func384 0
def Aem:Ax:=Aw [g_8,g_3] (fun d=>(Adi d.1 d.2.1).val) fun r=>([rv g_1 r],[])
theorem Aki:Fn Tryz.prog 385 .plain Aem:=mkF [] trivial Tryz.func385 0
def Ahv:Ax:=Aw [g_8] (fun d=>(Ag5 d.1).val) fun r=>([rv g_1 r],[])
theorem Anm:Fn Tryz.prog 353 .plain Ahv:=Df [(95,.plain,Cd),(384,.plain,Ql),(385,.plain,Aem)] ⟨B9,Ud,Aki,trivial⟩ ⟨[(1,.box 1 0),(3,.v false [(.int .i64,.nil)])],[(1,[(.int .i64,.nil),(.sl 3 [.int .i64],.ro)])],[]⟩ 5000000 [(.ret,⟨[(2,.v false [(.bool,.nil)])],[],[]⟩),((.exit 0),⟨[(1,.box 1 0)],[(1,[(.int .i64,.nil),(.sl 3 [.int .i64],.ro)])],[]⟩)] 4 K9 Tryz.func353 0
def Wq:Ax:=Aw [g_9] (fun d=>(Alh d.1).val) fun r=>([rv g_1 r],[])
theorem X7:Fn Tryz.prog 281 .plain Wq:=mkF [(95,.plain,Cd),(353,.plain,Ahv)] ⟨B9,Anm,trivial⟩ Tryz.func281 0
def Art:Ax:=Aw [H5] (fun d=>(Ag6 d.1).val) fun r=>([rv g_1 r],[])
theorem A0k:Fn Tryz.prog 282 .plain Art:=mkF [(280,.plain,Ael),(281,.plain,Wq),(95,.plain,Cd)] ⟨Akh,X7,B9,trivial⟩ Tryz.func282 0
def Im:Ax:=Aw [H5] (fun d=>(Adj d.1).val) fun r=>([rv g_1 r],[])
theorem I5:Fn Tryz.prog 142 .plain Im:=mkF [(274,.plain,Qk),(140,.plain,I4),(281,.plain,Wq),(282,.plain,Art)] ⟨S2,Jq,X7,A0k,trivial⟩ Tryz.func142 0
def Mw:Ax:=Aw [g_7] (fun d=>(Adk d.1).val) fun r=>([rv g_1 r],[])
theorem Nm:Fn Tryz.prog 96 .plain Mw:=mkF [(95,.plain,Cd)] ⟨B9,trivial⟩ Tryz.func96 0
def Nn:Ax:=Aw [Gf] (fun d=>(Sw d.1).val) fun r=>([rv g_1 r],[])
def No:Fns:=[(96,.plain,Mw),(140,.plain,I4),(95,.plain,Cd)]
theorem Aau:CfgOk Tryz.prog (D8 No):=Gx Oa Kv (show Lm Tryz.prog No from⟨Nm,Jq,B9,trivial⟩)
def Af6:Sk:=⟨[(1,.box 1 0),(18,.v false [(.sl 86 h_5,.ro)]),(19,.v false [(.int .i64,.nil)]),(20,.v false [(.int .i64,.nil)])],[(1,[(.int .i64,.nil),(.int .i64,.nil),(.sl 86 h_5,.ro)])],[]⟩
def Af7:List (Ex×Sk):=[(.ret,⟨[(2,.v false [(.bool,.nil)])],[],[]⟩),((.exit 0),⟨[],[],[]⟩)]
def Af8:Sk:=⟨[(1,.box 1 0),(4,.box 4 0),(18,.v false [(.sl 86 h_5,.ro)]),(19,.v false [(.int .i64,.nil)]),(20,.v false [(.int .i64,.nil)]),(51,.v false [(.sl 86 h_5,.ro)]),(52,.v false [(.int .i64,.nil)]),(53,.v false [(.int .i64,.nil)])],[(1,[(.int .i64,.nil),(.int .i64,.nil),(.sl 86 h_5,.ro)]),(4,[(.int .i64,.nil),(.int .i64,.nil),(.sl 5 [.int .u8],.ro),(.int .i64,.nil)])],[]⟩
def Af9:List (Ex×Sk):=[(.ret,⟨[(2,.v false [(.bool,.nil)])],[],[]⟩),((.exit 2),⟨[(1,.box 1 0),(18,.v false [(.sl 86 h_5,.ro)]),(19,.v false [(.int .i64,.nil)]),(20,.v false [(.int .i64,.nil)])],[(1,[(.int .i64,.nil),(.int .i64,.nil),(.sl 86 h_5,.ro)])],[]⟩)]
def Np:Fv:=fun i st=>cond (Nat.beq i 9) (lam Af8 10000000 Af9 Gw st) <| cond (Nat.beq i 4) (lam Af6 5000000 Af7 Ib st) <| .fail
theorem Ap6 (cx:Cx) (hp:cx.pin.length≤0):Dz Tryz.prog cx Tryz.f144.ntmps Np (Ba Tryz.f144 1):=Fs Aau hp (Do (by kernel_rfl:Bs (Ba Tryz.f144 1)=[]) trivial) (by kernel_rfl) (fun d=>(by kernel_rfl:bod (D8 No) 0 Tryz.f144.ntmps Np (Ba Tryz.f144 1) Af8 10000000 Af9 d=Gw d))
theorem Ap7 (cx:Cx) (hp:cx.pin.length≤0):Dz Tryz.prog cx Tryz.f144.ntmps Np (Ba Tryz.f144 0):=Fs Aau hp (Do (by kernel_rfl:Bs (Ba Tryz.f144 0)=[Ba Tryz.f144 1]) ⟨Ap6 cx hp,trivial⟩) (by kernel_rfl) (fun d=>(by kernel_rfl:bod (D8 No) 0 Tryz.f144.ntmps Np (Ba Tryz.f144 0) Af6 5000000 Af7 d=Ib d))
theorem Qm:Fn Tryz.prog 144 .plain Nn:=Qh Aau Tryz.func144 (by kernel_rfl) (by kernel_rfl) (fun cx b hp hb=>Do (by kernel_rfl:Bs (Tryz.f144.body.getD .skip)=[Ba Tryz.f144 0]) ⟨Ap7 cx hp,trivial⟩ b hb) (fun d=>(by kernel_rfl:H2 (D8 No) 0 Np Tryz.f144 .plain (mkA [Gf] d)=(Sw d.1).run fun r=>some ([rv g_1 r],[])))
def Aen:Ax:=Aw [Rp] (fun d=>(Adl d.1).val) fun r=>([rv g_1 r],[])
theorem Akj:Fn Tryz.prog 29 .plain Aen:=mkF [(95,.plain,Cd),(140,.plain,I4),(141,.plain,Abt),(142,.plain,Im),(143,.plain,Ii),(144,.plain,Nn)] ⟨B9,Jq,Anl,I5,Jr,Qm,trivial⟩ Tryz.func29 0
def Qn:Ax:=Aw [g_3] (fun d=>(Adm d.1).val) fun r=>([rv g_1 r],[])
theorem S3:Fn Tryz.prog 101 .plain Qn:=mkF [(95,.plain,Cd)] ⟨B9,trivial⟩ Tryz.func101 0
def Ann:Ax:=Aw [g_3,g_3] (fun d=>(Adn d.1 d.2.1).val) fun r=>([rv g_1 r],[])
theorem Axh:Fn Tryz.prog 283 .plain Ann:=mkF [] trivial Tryz.func283 0
def Aga:Ax:=Aw [g_4,g_4] (fun d=>(T7 d.1 d.2.1).val) fun r=>([rv g_1 r],[])
theorem Ap8:Fn Tryz.prog 163 .plain Aga:=mkF [(143,.plain,Ii)] ⟨Jr,trivial⟩ Tryz.func163 0
def Nq:Ax:=Aw [g_4] (fun d=>(Z6 d.1).val) fun r=>([rv g_1 r],[])
theorem Qo:Fn Tryz.prog 145 .plain Nq:=mkF [(95,.plain,Cd),(140,.plain,I4),(101,.plain,Qn),(283,.plain,Ann),(163,.plain,Aga)] ⟨B9,Jq,S3,Axh,Ap8,trivial⟩ Tryz.func145 0
def Aly:Ax:=Aw [g_0,g_0] (fun d=>(Ali d.1 d.2.1).val) fun r=>([rv g_3 r],[])
theorem Aru:Fn Tryz.prog 271 .plain Aly:=Df [] trivial ⟨[(0,.v false [(.sl 5 [.int .u8],.ro)]),(1,.v false [(.sl 5 [.int .u8],.ro)]),(5,.v false [(.int .i64,.nil)]),(13,.v false [(.int .i64,.nil)]),(14,.v false [(.int .i64,.nil)])],[],[]⟩ 6000000 [((.exit 0),⟨[(5,.v false [(.int .i64,.nil)])],[],[]⟩)] 5 Pw Tryz.func271 0
def Ano:Ax:=Aw [] (fun d=>(Adp).val) fun r=>([rv g_8 r],[])
theorem Axi:Fn Tryz.prog 347 .plain Ano:=mkF [] trivial Tryz.func347 0
def Ahw:Ax:=Aw [g_3,g_0] (fun d=>(Xk d.1 d.2.1).val) fun r=>([rv g_9 r],[])
theorem Anp:Fn Tryz.prog 272 .plain Ahw:=mkF [(95,.plain,Cd),(134,.plain,Dm),(347,.plain,Ano)] ⟨B9,Dg,Axi,trivial⟩ Tryz.func272 0
def Rq:Ax:=Aw [g_0,g_3,g_3] (fun d=>(At0 d.1 d.2.1 d.2.2.1).val) fun r=>([rv g_0 r],[])
theorem Te:Fn Tryz.prog 328 .plain Rq:=Df [] trivial ⟨[(1,.v false [(.int .i64,.nil)]),(7,.v false [(.sl 5 [.int .u8],(.own 6000000))]),(8,.v false [(.int .i64,.nil)])],[],[6000000]⟩ 6000000 [((.exit 0),⟨[(7,.v false [(.sl 5 [.int .u8],(.own 6000000))])],[],[6000000]⟩)] 5 Am1 Tryz.func328 0
def Ip:Ax:=Aw [A83] (fun d=>(Adq d.1).val) fun r=>([rv g_0 r],[])
theorem I6:Fn Tryz.prog 275 .plain Ip:=Df [] trivial ⟨[(3,.v false [(.sl 5 [.int .u8],(.own 4000000))]),(7,.v false [(.sl 23 [.sl 5 [.int .u8]],.ro)]),(8,.v false [(.int .i64,.nil)]),(9,.v false [(.int .i64,.nil)])],[],[4000000]⟩ 4000000 [((.exit 0),⟨[(3,.v false [(.sl 5 [.int .u8],(.own 4000000))])],[],[4000000]⟩)] 3 Jf Tryz.func275 0
def U2:Ax:=Aw [g_3,g_0,g_3,g_3] (fun d=>(Adr d.1 d.2.1 d.2.2.1 d.2.2.2.1).val) fun r=>([rv g_0 r],[])
theorem Aav:Fn Tryz.prog 276 .plain U2:=mkF [(274,.plain,Qk),(140,.plain,I4),(95,.plain,Cd),(328,.plain,Rq),(275,.plain,Ip)] ⟨S2,Jq,B9,Te,I6,trivial⟩ Tryz.func276 0
def Js:Ax:=Aw [g_3,g_4] (fun d=>(V7 d.1 d.2.1).val) fun r=>([rv g_0 r],[])
theorem Kx:Fn Tryz.prog 133 .plain Js:=mkF [(274,.plain,Qk),(101,.plain,Qn),(145,.plain,Nq),(276,.plain,U2),(275,.plain,Ip)] ⟨S2,S3,Qo,Aav,I6,trivial⟩ Tryz.func133 0
def Anq:Ax:=Aw [g_8,g_3] (fun d=>(Ads d.1 d.2.1).val) fun r=>([rv g_1 r],[])
theorem Axj:Fn Tryz.prog 382 .plain Anq:=mkF [(353,.plain,Ahv),(95,.plain,Cd),(385,.plain,Aem)] ⟨Anm,B9,Aki,trivial⟩ Tryz.func382 0
def Anr:Ax:=Aw [g_8,g_3] (fun d=>(Adu d.1 d.2.1).val) fun r=>([rv g_8 r.1,rv g_1 r.2],[])
theorem Axk:Fn Tryz.prog 348 .plain Anr:=Df [(381,.plain,Aas),(382,.plain,Anq)] ⟨Ahs,Axj,trivial⟩ ⟨[(1,.v false [(.int .i64,.nil)]),(2,.box 2 0),(4,.box 4 0),(6,.box 6 0),(7,.v false [(.int .i64,.nil)])],[(2,[(.int .i64,.nil),(.sl 3 [.int .i64],.ro)]),(4,[(.int .i64,.nil),(.sl 3 [.int .i64],(.own 6000000))]),(6,[(.int .i64,.nil),(.sl 3 [.int .i64],(.own 6000001))])],[6000000,6000001]⟩ 6000000 [((.exit 0),⟨[(1,.v false [(.int .i64,.nil)]),(2,.box 2 0),(4,.box 4 0),(6,.box 6 0)],[(2,[(.int .i64,.nil),(.sl 3 [.int .i64],.ro)]),(4,[(.int .i64,.nil),(.sl 3 [.int .i64],(.own 6000000))]),(6,[(.int .i64,.nil),(.sl 3 [.int .i64],(.own 6000001))])],[6000000,6000001]⟩)] 5 Jg Tryz.func348 0
def Arv:Ax:=Aw [] (fun d=>(Arg).val) fun r=>([rv g_5 r],[])
theorem A0l:Fn Tryz.prog 427 .plain Arv:=mkF [] trivial Tryz.func427 0
def Akk:Ax:=Aw [] (fun d=>(Aj1).val) fun r=>([rv At1 r],[])
theorem Aug:Fn Tryz.prog 417 .plain Akk:=mkF [(427,.plain,Arv)] ⟨A0l,trivial⟩ Tryz.func417 0
def Aeo:Ax:=Aw [At1] (fun d=>(Adw d.1).val) fun r=>([rv g_1 r],[])
theorem Akl:Fn Tryz.prog 423 .plain Aeo:=mkF [(384,.plain,Ql),(95,.plain,Cd)] ⟨Ud,B9,trivial⟩ Tryz.func423 0
def Ayz:Ax:=Aw [g_0,g_3,g_3] (fun d=>(App d.1 d.2.1 d.2.2.1).val) fun r=>([rv g_0 r.1,rv g_1 r.2],[])
theorem A4t:Fn Tryz.prog 374 .plain Ayz:=mkF [] trivial Tryz.func374 0
def Auh:Ax:=Aw [g_0,g_3,g_3] (fun d=>(Alj d.1 d.2.1 d.2.2.1).val) fun r=>([rv g_3 r.1,rv g_3 r.2.1,rv g_1 r.2.2],[])
theorem A2f:Fn Tryz.prog 327 .plain Auh:=Df [(374,.plain,Ayz)] ⟨A4t,trivial⟩ ⟨[(1,.v false [(.int .i64,.nil)]),(2,.v false [(.int .i64,.nil)]),(11,.v false [(.int .i64,.nil)]),(29,.v false [(.sl 5 [.int .u8],(.own 9000000))]),(30,.v false [(.int .i64,.nil)]),(31,.v false [(.int .i64,.nil)])],[],[9000000]⟩ 9000000 [((.exit 0),⟨[(1,.v false [(.int .i64,.nil)]),(2,.v false [(.int .i64,.nil)]),(11,.v false [(.int .i64,.nil)])],[],[]⟩)] 8 Mt Tryz.func327 0
def Ap9:Ax:=Aw [g_3,g_3] (fun d=>(Apr d.1 d.2.1).val) fun r=>([rv g_3 r],[])
theorem Aui:Fn Tryz.prog 431 .plain Ap9:=mkF [] trivial Tryz.func431 0
def Ahx:Ax:=Aw [g_0] (fun d=>(Py d.1).val) fun r=>([rv g_5 r],[])
def L5:Fns:=[(327,.plain,Auh),(431,.plain,Ap9)]
theorem Wr:CfgOk Tryz.prog (D8 L5):=Gx Oa Kv (show Lm Tryz.prog L5 from⟨A2f,Aui,trivial⟩)
def Abu:Sk:=⟨[(3,.v false [(.sl 3 [.int .i64],(.own 10000000))]),(5,.v false [(.int .i64,.nil)])],[],[10000000]⟩
def Abv:List (Ex×Sk):=[((.exit 2),⟨[(3,.v false [(.sl 3 [.int .i64],(.own 10000000))])],[],[10000000]⟩)]
def Abw:Sk:=⟨[(0,.v false [(.sl 5 [.int .u8],.ro)]),(3,.v false [(.sl 3 [.int .i64],(.own 6000000))]),(4,.v false [(.int .i64,.nil)])],[],[6000000]⟩
def Abx:List (Ex×Sk):=[((.exit 0),⟨[(3,.v false [(.sl 3 [.int .i64],(.own 6000000))])],[],[6000000]⟩)]
def L6:Fv:=fun i st=>cond (Nat.beq i 5) (lam Abw 6000000 Abx Hp st) <| cond (Nat.beq i 9) (lam Abu 10000000 Abv Hq st) <| .fail
theorem Ant (cx:Cx) (hp:cx.pin.length≤0):Dz Tryz.prog cx Tryz.f430.ntmps L6 (Ba Tryz.f430 0):=Fs Wr hp (Do (by kernel_rfl:Bs (Ba Tryz.f430 0)=[]) trivial) (by kernel_rfl) (fun d=>(by kernel_rfl:bod (D8 L5) 0 Tryz.f430.ntmps L6 (Ba Tryz.f430 0) Abw 6000000 Abx d=Hp d))
theorem Anu (cx:Cx) (hp:cx.pin.length≤0):Dz Tryz.prog cx Tryz.f430.ntmps L6 (Ba Tryz.f430 1):=Fs Wr hp (Do (by kernel_rfl:Bs (Ba Tryz.f430 1)=[]) trivial) (by kernel_rfl) (fun d=>(by kernel_rfl:bod (D8 L5) 0 Tryz.f430.ntmps L6 (Ba Tryz.f430 1) Abu 10000000 Abv d=Hq d))
theorem As9:Fn Tryz.prog 430 .plain Ahx:=Qh Wr Tryz.func430 (by kernel_rfl) (by kernel_rfl) (fun cx b hp hb=>Do (by kernel_rfl:Bs (Tryz.f430.body.getD .skip)=[Ba Tryz.f430 0,Ba Tryz.f430 1]) ⟨Ant cx hp,Anu cx hp,trivial⟩ b hb) (fun d=>(by kernel_rfl:H2 (D8 L5) 0 L6 Tryz.f430 .plain (mkA [g_0] d)=(Py d.1).run fun r=>some ([rv g_5 r],[])))
theorem A2g (n:Int) (w:World) (h0:0≤n) (h1:n≤63):
  Calls Tryz.prog 432 #[.int .i64 n] w (Ret w (.int .i64 (Nr[n.toNat]?.getD 0))):=by
 have hx: ∃x,Nr[n.toNat]? =some x:=⟨_,List.getElem?_eq_getElem (by simp[Nr];omega)⟩
 obtain⟨x,hx⟩:=hx
 have hcell:(Ahy 358 w Anv).cell? ⟨w.heap.size,n.toNat,none⟩=some (.int .i64 x):=by
  rw[Axl];unfold Anv;rw[List.getElem?_toArray,List.getElem?_map,hx];rfl
 rw[hx]
 go_enter Tryz.func432,Tryz.ntmps432
 go_wp2_with (first|(refine Ata rfl 358 _ rfl Anv (by kernel_rfl) ?_)|(refine Atb rfl 358 rfl _ _ Anw (by kernel_rfl) (by kernel_rfl) (by kernel_rfl) ?_)|(refine Atc rfl 358 _ _ rfl Anv rfl rfl (by kernel_rfl) (by kernel_rfl) (by kernel_rfl) ?_))
 go_ret
 refine Ret.mk rfl ?_
 rw[A2h]
 exact(Cm.refl _).alloc _
theorem A2i (n:Int) (w:World) (h0: ¬(0≤n∧n≤63)):
  Calls Tryz.prog 432 #[.int .i64 n] w (Ret w (.int .i64 0)):=by
 by_cases h:n<0
 ·go_enter Tryz.func432,Tryz.ntmps432
  go_wp2_with fail
  go_ret
  exact Ret.mk rfl (Cm.refl _)
 ·have h2:63<n:=by omega
  go_enter Tryz.func432,Tryz.ntmps432
  go_wp2_with fail
  go_ret
  exact Ret.mk rfl (Cm.refl _)
def Atd:List (Bool×List Sh):=[(false,[.int .i64])]
def Ate (r:YI):List RV×List RV:=([rv (false,[.int .i64]) r],[])
def Agb:Ax:=Aw Atd (fun d=>(Afx d.1).val) Ate
theorem Aqa:Fn Tryz.prog 432 .plain Agb:=by
 refine⟨?_,Tryz.f432,Tryz.func432,by kernel_rfl,by kernel_rfl⟩
 intro rs res vals w G hv hG hr
 obtain⟨d,x,rfl,h1,h2⟩:=Auj hv
 obtain⟨⟨n,_⟩,_⟩:=d
 cases h1
 subst h2
 match vals,hr with
 |[v],hr=>
  have e:v= .int .i64 n:=hr.1.1.1
  subst e
  refine(?_:Calls Tryz.prog 432 #[.int .i64 n] w (Ret w (.int .i64 (Ta n)))).mono fun e w' h=>A2j (A2k n) h
  unfold Ta
  by_cases h:0≤n∧n≤63
  ·rw[if_pos h];exact A2g n w h.1 h.2
  ·rw[if_neg h];exact A2i n w h

def Arw:Ax:=Aw [g_3,g_3] (fun d=>(Arh d.1 d.2.1).val) fun r=>([rv g_3 r],[])
theorem A0m:Fn Tryz.prog 433 .plain Arw:=mkF [] trivial Tryz.func433 0
def Ahz:Ax:=Aw [g_5,g_0] (fun d=>(Pz d.1 d.2.1).val) fun r=>([rv g_5 r],[])
def L7:Fns:=[(384,.plain,Ql),(430,.plain,Ahx),(431,.plain,Ap9),(432,.plain,Agb),(433,.plain,Arw)]
theorem Ws:CfgOk Tryz.prog (D8 L7):=Gx Oa Kv (show Lm Tryz.prog L7 from⟨Ud,As9,Aui,Aqa,A0m,trivial⟩)
def X8:Sk:=⟨[(0,.v false [(.sl 3 [.int .i64],.ro)]),(5,.v false [(.sl 3 [.int .i64],(.own 17000000))]),(133,.v false [(.sl 3 [.int .i64],(.own 17000001))]),(134,.v false [(.int .i64,.nil)]),(135,.v false [(.int .i64,.nil)])],[],[17000000,17000001]⟩
def X9:List (Ex×Sk):=[((.exit 2),⟨[(5,.v false [(.sl 3 [.int .i64],(.own 17000000))])],[],[17000000]⟩)]
def Aby:Sk:=⟨[(0,.v false [(.sl 3 [.int .i64],.ro)]),(5,.v false [(.sl 3 [.int .i64],(.own 8000000))]),(6,.v false [(.sl 3 [.int .i64],(.own 8000001))]),(7,.v false [(.int .i64,.nil)]),(8,.v false [(.int .i64,.nil)]),(9,.v false [(.int .i64,.nil)]),(10,.v false [(.int .i64,.nil)]),(11,.v false [(.int .i64,.nil)]),(12,.v false [(.int .i64,.nil)]),(13,.v false [(.int .i64,.nil)]),(14,.v false [(.int .i64,.nil)]),(15,.v false [(.int .i64,.nil)])],[],[8000000,8000001]⟩
def Abz:List (Ex×Sk):=[((.exit 0),⟨[(0,.v false [(.sl 3 [.int .i64],.ro)]),(5,.v false [(.sl 3 [.int .i64],(.own 8000000))]),(7,.v false [(.int .i64,.nil)]),(8,.v false [(.int .i64,.nil)]),(9,.v false [(.int .i64,.nil)]),(10,.v false [(.int .i64,.nil)]),(11,.v false [(.int .i64,.nil)]),(12,.v false [(.int .i64,.nil)]),(13,.v false [(.int .i64,.nil)]),(14,.v false [(.int .i64,.nil)])],[],[8000000]⟩)]
def L8:Fv:=fun i st=>cond (Nat.beq i 7) (lam Aby 8000000 Abz F2 st) <| cond (Nat.beq i 16) (lam X8 17000000 X9 Fl st) <| .fail
theorem Anx (cx:Cx) (hp:cx.pin.length≤0):Dz Tryz.prog cx Tryz.f429.ntmps L8 (Ba Tryz.f429 0):=Fs Ws hp (Do (by kernel_rfl:Bs (Ba Tryz.f429 0)=[]) trivial) (by kernel_rfl) (fun d=>(by kernel_rfl:bod (D8 L7) 0 Tryz.f429.ntmps L8 (Ba Tryz.f429 0) Aby 8000000 Abz d=F2 d))
theorem Alz (cx:Cx) (hp:cx.pin.length≤0):Dz Tryz.prog cx Tryz.f429.ntmps L8 (Ba Tryz.f429 1):=Fs Ws hp (Do (by kernel_rfl:Bs (Ba Tryz.f429 1)=[]) trivial) (by kernel_rfl) (fun d=>(by kernel_rfl:bod (D8 L7) 0 Tryz.f429.ntmps L8 (Ba Tryz.f429 1) X8 17000000 X9 d=Fl d))
theorem Atf:Fn Tryz.prog 429 .plain Ahz:=Qh Ws Tryz.func429 (by kernel_rfl) (by kernel_rfl) (fun cx b hp hb=>Do (by kernel_rfl:Bs (Tryz.f429.body.getD .skip)=[Ba Tryz.f429 0,Ba Tryz.f429 1]) ⟨Anx cx hp,Alz cx hp,trivial⟩ b hb) (fun d=>(by kernel_rfl:H2 (D8 L7) 0 L8 Tryz.f429 .plain (mkA [g_5,g_0] d)=(Pz d.1 d.2.1).run fun r=>some ([rv g_5 r],[])))
def Qp:Ax:=Aw [g_5,g_0] (fun d=>(P0 d.1 d.2.1).val) fun r=>([rv g_5 r.1,rv g_0 r.2],[])
theorem Wt:Fn Tryz.prog 424 .view Qp:=Df [(429,.plain,Ahz)] ⟨Atf,trivial⟩ ⟨[(0,.v false [(.sl 3 [.int .i64],.rd)]),(1,.v false [(.sl 5 [.int .u8],.ro)])],[],[]⟩ 2000000 [((.exit 0),⟨[(0,.v false [(.sl 3 [.int .i64],.rd)]),(1,.v false [(.sl 5 [.int .u8],.ro)])],[],[]⟩)] 1 Eu Tryz.func424 0
def Akm:Ax:=Aw [At1,g_0] (fun d=>(Z7 d.1 d.2.1).val) fun r=>([rv At1 r],[])
theorem Auk:Fn Tryz.prog 416 .plain Akm:=mkF [(423,.plain,Aeo),(134,.plain,Dm),(275,.plain,Ip),(424,.view,Qp)] ⟨Akl,Dg,I6,Wt,trivial⟩ Tryz.func416 0
def Ay0:Ax:=Aw [g_3] (fun d=>(Aps d.1).val) fun r=>([rv g_0 r],[])
theorem A4u:Fn Tryz.prog 425 .plain Ay0:=Df [(95,.plain,Cd),(328,.plain,Rq)] ⟨B9,Te,trivial⟩ ⟨[(0,.v false [(.int .i64,.nil)]),(3,.v false [(.sl 5 [.int .u8],(.own 5000000))])],[],[5000000]⟩ 5000000 [((.exit 0),⟨[(0,.v false [(.int .i64,.nil)]),(3,.v false [(.sl 5 [.int .u8],(.own 5000000))])],[],[5000000]⟩)] 4 Lv Tryz.func425 0
def Agc:Ax:=Aw [g_5] (fun d=>(T8 d.1).val) fun r=>([rv g_0 r],[])
theorem Aqb:Fn Tryz.prog 426 .plain Agc:=Df [(328,.plain,Rq)] ⟨Te,trivial⟩ ⟨[(3,.v false [(.sl 5 [.int .u8],(.own 4000000))]),(7,.v false [(.sl 3 [.int .i64],.ro)]),(8,.v false [(.int .i64,.nil)]),(9,.v false [(.int .i64,.nil)])],[],[4000000]⟩ 4000000 [((.exit 0),⟨[(3,.v false [(.sl 5 [.int .u8],(.own 4000000))])],[],[4000000]⟩)] 3 Gq Tryz.func426 0
def Akn:Ax:=Aw [At1] (fun d=>(Z9 d.1).val) fun r=>([rv g_0 r],[])
theorem Aul:Fn Tryz.prog 415 .plain Akn:=mkF [(423,.plain,Aeo),(425,.plain,Ay0),(275,.plain,Ip),(424,.view,Qp),(426,.plain,Agc)] ⟨Akl,A4u,I6,Wt,Aqb,trivial⟩ Tryz.func415 0
def Aqc:Ax:=Aw [g_0] (fun d=>(Apu d.1).val) fun r=>([rv g_0 r],[])
theorem Aum:Fn Tryz.prog 401 .plain Aqc:=mkF [(417,.plain,Akk),(416,.plain,Akm),(415,.plain,Akn)] ⟨Aug,Auk,Aul,trivial⟩ Tryz.func401 0
def Ah0:Ax:=Aw [g_0] (fun d=>(V9 d.1).val) fun r=>([rv g_0 r],[])
theorem Atg:Fn Tryz.prog 400 .plain Ah0:=Df [(134,.plain,Dm),(401,.plain,Aqc)] ⟨Dg,Aum,trivial⟩ ⟨[(3,.v false [(.sl 5 [.int .u8],(.own 7000000))])],[],[7000000]⟩ 7000000 [((.exit 0),⟨[(3,.v false [(.sl 5 [.int .u8],(.own 7000000))])],[],[7000000]⟩)] 6 Fb Tryz.func400 0
def Any:Ax:=Aw [g_0,A84] (fun d=>(Adx d.1 d.2.1).val) fun r=>([rv g_0 r],[])
theorem Axm:Fn Tryz.prog 402 .plain Any:=Df [] trivial ⟨[(1,.v false [(.int .u8,.nil)]),(5,.v false [(.sl 5 [.int .u8],(.own 4000000))]),(9,.v false [(.sl 5 [.int .u8],.ro)]),(10,.v false [(.int .i64,.nil)]),(11,.v false [(.int .i64,.nil)])],[],[4000000]⟩ 4000000 [((.exit 0),⟨[(5,.v false [(.sl 5 [.int .u8],(.own 4000000))])],[],[4000000]⟩)] 3 Jh Tryz.func402 0
def Aep:Ax:=Aw [g_0,g_0] (fun d=>(All d.1 d.2.1).val) fun r=>([rv g_0 r],[])
theorem Ah1:Fn Tryz.prog 375 .plain Aep:=mkF [(400,.plain,Ah0),(402,.plain,Any),(275,.plain,Ip),(401,.plain,Aqc)] ⟨Atg,Axm,I6,Aum,trivial⟩ Tryz.func375 0
def Aqd:Ax:=Aw [g_0,g_0] (fun d=>(Apv d.1 d.2.1).val) fun r=>([rv g_0 r],[])
theorem Aun:Fn Tryz.prog 330 .plain Aqd:=mkF [(375,.plain,Aep),(134,.plain,Dm)] ⟨Ah1,Dg,trivial⟩ Tryz.func330 0
def Ako:Ax:=Aw [g_0,g_0] (fun d=>(Aab d.1 d.2.1).val) fun r=>([rv g_1 r],[])
theorem Auo:Fn Tryz.prog 333 .plain Ako:=mkF [(271,.plain,Aly)] ⟨Aru,trivial⟩ Tryz.func333 0
def Akp:Ax:=Aw [g_0,g_0,g_3] (fun d=>(Aad d.1 d.2.1 d.2.2.1).val) fun r=>([rv g_0 r],[])
theorem Aup:Fn Tryz.prog 420 .plain Akp:=mkF [(95,.plain,Cd),(275,.plain,Ip),(328,.plain,Rq),(375,.plain,Aep)] ⟨B9,I6,Te,Ah1,trivial⟩ Tryz.func420 0
def Anz:Ax:=Aw [g_0,g_0,g_3] (fun d=>(Ady d.1 d.2.1 d.2.2.1).val) fun r=>([rv g_0 r],[])
theorem Axn:Fn Tryz.prog 406 .plain Anz:=Df [(95,.plain,Cd),(420,.plain,Akp),(134,.plain,Dm)] ⟨B9,Aup,Dg,trivial⟩ ⟨[(0,.v false [(.sl 5 [.int .u8],.ro)]),(1,.v false [(.sl 5 [.int .u8],.ro)]),(2,.v false [(.int .i64,.nil)]),(7,.v false [(.sl 5 [.int .u8],(.own 6000000))]),(8,.v false [(.int .i64,.nil)])],[],[6000000]⟩ 6000000 [((.exit 0),⟨[(2,.v false [(.int .i64,.nil)]),(7,.v false [(.sl 5 [.int .u8],(.own 6000000))])],[],[6000000]⟩)] 5 Ji Tryz.func406 0
def Aqe:Ax:=Aw [g_0,g_0,g_0] (fun d=>(Apw d.1 d.2.1 d.2.2.1).val) fun r=>([rv g_0 r],[])
theorem Auq:Fn Tryz.prog 383 .plain Aqe:=Df [(406,.plain,Anz)] ⟨Axn,trivial⟩ ⟨[(2,.v false [(.sl 5 [.int .u8],.ro)]),(7,.v false [(.sl 5 [.int .u8],(.own 6000000))]),(28,.v false [(.sl 5 [.int .u8],(.own 6000001))]),(29,.v false [(.int .i64,.nil)]),(30,.v false [(.int .i64,.nil)])],[],[6000000,6000001]⟩ 6000000 [((.exit 0),⟨[(7,.v false [(.sl 5 [.int .u8],(.own 6000000))])],[],[6000000]⟩)] 5 Oy Tryz.func383 0
def An0:Ax:=Aw [g_0,g_3,g_4] (fun d=>(Ad0 d.1 d.2.1 d.2.2.1).val) fun r=>([rv g_0 r.1,rv g_1 r.2],[])
theorem Axo:Fn Tryz.prog 349 .plain An0:=mkF [(133,.plain,Js),(330,.plain,Aqd),(333,.plain,Ako),(276,.plain,U2),(383,.plain,Aqe)] ⟨Kx,Aun,Auo,Aav,Auq,trivial⟩ Tryz.func349 0
def An1:Ax:=Aw [g_9,g_3,g_4] (fun d=>(Ad2 d.1 d.2.1 d.2.2.1).val) fun r=>([rv g_9 r.1,rv g_0 r.2.1,rv g_3 r.2.2],[])
theorem Axp:Fn Tryz.prog 273 .plain An1:=mkF [(346,.plain,U1),(281,.plain,Wq),(133,.plain,Js),(348,.plain,Anr),(349,.plain,An0)] ⟨Aat,X7,Kx,Axk,Axo,trivial⟩ Tryz.func273 0
def Ah2:Ax:=Aw [H5,g_3,g_4] (fun d=>(Wc d.1 d.2.1 d.2.2.1).val) fun r=>([rv H5 r.1,rv g_0 r.2.1,rv g_3 r.2.2],[])
theorem Ath:Fn Tryz.prog 130 .plain Ah2:=mkF [(270,.plain,Hy),(142,.plain,Im),(95,.plain,Cd),(101,.plain,Qn),(145,.plain,Nq),(271,.plain,Aly),(272,.plain,Ahw),(273,.plain,An1)] ⟨Ig,I5,B9,S3,Qo,Aru,Anp,Axp,trivial⟩ Tryz.func130 0
def An2:Ax:=Aw [H5,g_3] (fun d=>(Ad3 d.1 d.2.1).val) fun r=>([rv g_0 r.1,rv g_1 r.2],[])
theorem Axq:Fn Tryz.prog 131 .plain An2:=mkF [(142,.plain,Im),(134,.plain,Dm)] ⟨I5,Dg,trivial⟩ Tryz.func131 0
def Aur:Ax:=Aw [g_0,g_0,g_0] (fun d=>(Alm d.1 d.2.1 d.2.2.1).val) fun r=>([rv Az8 r],[])
theorem A2l:Fn Tryz.prog 132 .plain Aur:=mkF [(134,.plain,Dm)] ⟨Dg,trivial⟩ Tryz.func132 0
def U3:Ax:=Aw [Gf,g_7] (fun d=>(Ad4 d.1 d.2.1).val) fun r=>([rv g_3 r],[])
theorem Aaw:Fn Tryz.prog 149 .plain U3:=Df [] trivial ⟨[(3,.box 3 0),(8,.v false [(.sl 86 h_5,.ro)]),(9,.v false [(.int .i64,.nil)]),(10,.v false [(.int .i64,.nil)])],[(3,[(.int .i64,.nil),(.int .i64,.nil)])],[]⟩ 3000000 [(.ret,⟨[(4,.v false [(.int .i64,.nil)])],[],[]⟩),((.exit 0),⟨[],[],[]⟩)] 2 Lw Tryz.func149 0
def An3:Ax:=Aw [Gf,g_3,g_7,g_0] (fun d=>(Ut d.1 d.2.1 d.2.2.1 d.2.2.2.1).val) fun r=>([rv Gf r.1,rv g_1 r.2],[])
theorem Axr:Fn Tryz.prog 135 .plain An3:=mkF [(150,.plain,Ih),(149,.plain,U3),(144,.plain,Nn),(95,.plain,Cd),(143,.plain,Ii)] ⟨Jp,Aaw,Qm,B9,Jr,trivial⟩ Tryz.func135 0
def Ue:Ax:=Aw [g_3] (fun d=>(Ua d.1).val) fun r=>([rv g_0 r],[])
theorem Ab0:Fn Tryz.prog 293 .plain Ue:=mkF [(95,.plain,Cd),(328,.plain,Rq)] ⟨B9,Te,trivial⟩ Tryz.func293 0
def An4:Ax:=Aw [g_0,g_0,g_3] (fun d=>(Ad5 d.1 d.2.1 d.2.2.1).val) fun r=>([rv g_0 r.1,rv g_1 r.2],[])
theorem Axs:Fn Tryz.prog 356 .plain An4:=Df [(95,.plain,Cd),(275,.plain,Ip),(375,.plain,Aep),(134,.plain,Dm)] ⟨B9,I6,Ah1,Dg,trivial⟩ ⟨[(0,.v false [(.sl 5 [.int .u8],.ro)]),(1,.v false [(.sl 5 [.int .u8],.ro)]),(2,.v false [(.int .i64,.nil)]),(8,.v false [(.sl 5 [.int .u8],(.own 7000000))]),(9,.v false [(.sl 5 [.int .u8],(.own 7000001))]),(10,.v false [(.int .i64,.nil)])],[],[7000000,7000001]⟩ 7000000 [((.exit 0),⟨[(2,.v false [(.int .i64,.nil)]),(8,.v false [(.sl 5 [.int .u8],(.own 7000000))])],[],[7000000]⟩)] 6 Jl Tryz.func356 0
def An5:Ax:=Aw [g_0,g_6] (fun d=>(Ad7 d.1 d.2.1).val) fun r=>([rv g_0 r],[])
theorem Axt:Fn Tryz.prog 292 .plain An5:=mkF [(356,.plain,An4)] ⟨Axs,trivial⟩ Tryz.func292 0
def Aus:Ax:=Aw [H5] (fun d=>(Alo d.1).val) fun r=>([rv H5 r.1,rv g_1 r.2],[])
theorem A2m:Fn Tryz.prog 350 .plain Aus:=mkF [(270,.plain,Hy),(142,.plain,Im),(292,.plain,An5),(272,.plain,Ahw)] ⟨Ig,I5,Axt,Anp,trivial⟩ Tryz.func350 0
def Agd:Ax:=Aw [H5,g_3,g_0] (fun d=>(Ub d.1 d.2.1 d.2.2.1).val) fun r=>([rv H5 r.1,rv g_3 r.2],[])
theorem Aqf:Fn Tryz.prog 277 .plain Agd:=mkF [(270,.plain,Hy),(142,.plain,Im),(95,.plain,Cd),(293,.plain,Ue),(143,.plain,Ii),(350,.plain,Aus)] ⟨Ig,I5,B9,Ab0,Jr,A2m,trivial⟩ Tryz.func277 0
def Aut:Ax:=Aw [g_0,g_3,g_0,g_3,g_3,g_3,g_0] (fun d=>(Alq d.1 d.2.1 d.2.2.1 d.2.2.2.1 d.2.2.2.2.1 d.2.2.2.2.2.1 d.2.2.2.2.2.2.1).val) fun r=>([rv g_4 r.1,rv g_1 r.2],[])
theorem A2n:Fn Tryz.prog 351 .plain Aut:=mkF [(134,.plain,Dm),(274,.plain,Qk),(101,.plain,Qn),(145,.plain,Nq),(276,.plain,U2),(383,.plain,Aqe),(133,.plain,Js),(330,.plain,Aqd)] ⟨Dg,S2,S3,Qo,Aav,Auq,Kx,Aun,trivial⟩ Tryz.func351 0
def An6:Ax:=Aw [g_9,g_3,g_0,g_3,g_0] (fun d=>(Uv d.1 d.2.1 d.2.2.1 d.2.2.2.1 d.2.2.2.2.1).val) fun r=>([rv g_9 r.1,rv g_4 r.2.1,rv g_3 r.2.2],[])
theorem Axu:Fn Tryz.prog 279 .plain An6:=mkF [(346,.plain,U1),(281,.plain,Wq),(351,.plain,Aut)] ⟨Aat,X7,A2n,trivial⟩ Tryz.func279 0
def Wu:Ax:=Aw [H5,g_3,g_0] (fun d=>(Qd d.1 d.2.1 d.2.2.1).val) fun r=>([rv H5 r.1,rv g_4 r.2.1,rv g_3 r.2.2],[])
theorem Age:Fn Tryz.prog 138 .plain Wu:=mkF [(270,.plain,Hy),(142,.plain,Im),(279,.plain,An6)] ⟨Ig,I5,Axu,trivial⟩ Tryz.func138 0
def Ay1:Ax:=Aw [H5] (fun d=>(Apx d.1).val) fun r=>([rv H5 r.1,rv g_4 r.2.1,rv g_3 r.2.2],[])
theorem A4v:Fn Tryz.prog 200 .plain Ay1:=mkF [(142,.plain,Im),(270,.plain,Hy),(293,.plain,Ue),(138,.plain,Wu)] ⟨I5,Ig,Ab0,Age,trivial⟩ Tryz.func200 0
def Auu:Ax:=Aw [g_0,g_0] (fun d=>(Alr d.1 d.2.1).val) fun r=>([rv Az8 r],[])
theorem A2o:Fn Tryz.prog 245 .plain Auu:=mkF [(134,.plain,Dm)] ⟨Dg,trivial⟩ Tryz.func245 0
def Aeq:Ax:=Aw [H5,g_4] (fun d=>(Ad8 d.1 d.2.1).val) fun r=>([rv Az8 r],[])
theorem Akq:Fn Tryz.prog 139 .plain Aeq:=mkF [(133,.plain,Js),(245,.plain,Auu)] ⟨Kx,A2o,trivial⟩ Tryz.func139 0
def Agf:Ax:=Aw [Rp,g_3,g_0] (fun d=>(N7 d.1 d.2.1 d.2.2.1).val) fun r=>([rv Rp r.1,rv A4n r.2.1,rv A4o r.2.2],[])
theorem Aqg:Fn Tryz.prog 136 (.lend [2]) Agf:=mkF [(277,.plain,Agd),(134,.plain,Dm),(200,.plain,Ay1),(139,.plain,Aeq)] ⟨Aqf,Dg,A4v,Akq,trivial⟩ Tryz.func136 1
def Tf:Ax:=Aw [Gf,g_3] (fun d=>(Il d.1 d.2.1).val) fun r=>([rv Gf r],[])
def Iq:Fns:=[(150,.plain,Ih)]
theorem Tg:CfgOk Tryz.prog (D8 Iq):=Gx Oa Kv (show Lm Tryz.prog Iq from⟨Jp,trivial⟩)
def Qq:Sk:=⟨[(1,.v false [(.int .i64,.nil)]),(4,.box 4 0),(5,.box 5 0),(13,.v false [(.sl 86 h_5,(.own 4000000))]),(14,.v false [(.int .i64,.nil)]),(15,.v false [(.int .i64,.nil)])],[(4,[(.int .i64,.nil),(.int .i64,.nil),(.sl 86 h_5,(.own 4000001))]),(5,[(.int .i64,.nil),(.int .i64,.nil),(.sl 86 h_5,(.own 4000002))])],[4000000,4000001,4000002]⟩
def Qr:List (Ex×Sk):=[((.exit 0),⟨[(4,.box 4 0),(5,.box 5 0)],[(4,[(.int .i64,.nil),(.int .i64,.nil),(.sl 86 h_5,(.own 4000000))]),(5,[(.int .i64,.nil),(.int .i64,.nil),(.sl 86 h_5,(.own 4000001))])],[4000000,4000001]⟩)]
def L9:Fv:=fun i st=>cond (Nat.beq i 3) (lam Qq 4000000 Qr Du st) <| .fail
theorem Ab1 (cx:Cx) (hp:cx.pin.length≤0):Dz Tryz.prog cx Tryz.f278.ntmps L9 (Ba Tryz.f278 0):=A4w Tg hp (Do (by kernel_rfl:Bs (Ba Tryz.f278 0)=[]) trivial) 13 15 4500000 (by kernel_rfl) (by kernel_rfl) (fun d=>(by kernel_rfl:A4x (D8 Iq) 0 Tryz.f278.ntmps L9 (Ba Tryz.f278 0) Qq 4000000 Qr 13 15 4500000 d=Du d))
theorem Agm:Fn Tryz.prog 278 .plain Tf:=Qh Tg Tryz.func278 (by kernel_rfl) (by kernel_rfl) (fun cx b hp hb=>Do (by kernel_rfl:Bs (Tryz.f278.body.getD .skip)=[Ba Tryz.f278 0]) ⟨Ab1 cx hp,trivial⟩ b hb) (fun d=>(by kernel_rfl:H2 (D8 Iq) 0 L9 Tryz.f278 .plain (mkA [Gf,g_3] d)=(Il d.1 d.2.1).run fun r=>some ([rv Gf r],[])))
def Arx:Ax:=Aw [Gf,g_3,g_7,g_0] (fun d=>(Tb d.1 d.2.1 d.2.2.1 d.2.2.2.1).val) fun r=>([rv Gf r.1,rv g_1 r.2],[])
theorem A0n:Fn Tryz.prog 137 .plain Arx:=mkF [(144,.plain,Nn),(95,.plain,Cd),(96,.plain,Mw),(140,.plain,I4),(150,.plain,Ih),(278,.plain,Tf),(149,.plain,U3),(134,.plain,Dm)] ⟨Qm,B9,Nm,Jq,Jp,Agm,Aaw,Dg,trivial⟩ Tryz.func137 0
def Ah3:Ax:=Aw [Rp,g_3,g_7,g_4,g_0] (fun d=>(Qe d.1 d.2.1 d.2.2.1 d.2.2.2.1 d.2.2.2.2.1).val) fun r=>([rv Rp r.1,rv A4n r.2.1,rv A4o r.2.2.1,rv g_1 r.2.2.2],[])
theorem Ati:Fn Tryz.prog 28 .plain Ah3:=mkF [(129,.plain,Aht),(29,.plain,Aen),(96,.plain,Mw),(130,.plain,Ah2),(131,.plain,An2),(133,.plain,Js),(132,.plain,Aur),(134,.plain,Dm),(135,.plain,An3),(136,(.lend [2]),Agf),(137,.plain,Arx),(138,.plain,Wu),(139,.plain,Aeq)] ⟨As7,Akj,Nm,Ath,Axq,Kx,A2l,Dg,Axr,Aqg,A0n,Age,Akq,trivial⟩ Tryz.func28 0
def An7:Ax:=Aw [A4n] (fun d=>(Ad9 d.1).val) fun r=>([rv g_1 r],[])
theorem Axv:Fn Tryz.prog 30 .plain An7:=Df [(145,.plain,Nq),(96,.plain,Mw)] ⟨Qo,Nm,trivial⟩ ⟨[(0,.v false [(.sl 90 Az7,.ro)]),(3,.v false [(.int .i64,.nil)])],[],[]⟩ 3000000 [(.ret,⟨[(2,.v false [(.bool,.nil)])],[],[]⟩),((.exit 0),⟨[],[],[]⟩)] 2 Jm Tryz.func30 0
def Akr:Ax:=Aw [g_0,g_3] (fun d=>(Aaf d.1 d.2.1).val) fun r=>([rv g_1 r],[])
theorem Auv:Fn Tryz.prog 284 .plain Akr:=mkF [] trivial Tryz.func284 0
def An8:Ax:=Aw [Az8] (fun d=>(Aeb d.1).val) fun r=>([rv g_1 r],[])
theorem Axw:Fn Tryz.prog 146 .plain An8:=mkF [(95,.plain,Cd),(284,.plain,Akr),(96,.plain,Mw)] ⟨B9,Auv,Nm,trivial⟩ Tryz.func146 0
def Aks:Ax:=Aw [A4o] (fun d=>(Aag d.1).val) fun r=>([rv g_1 r],[])
theorem Auw:Fn Tryz.prog 31 .plain Aks:=Df [(146,.plain,An8)] ⟨Axw,trivial⟩ ⟨[(0,.v false [(.sl 113 h_9,.ro)]),(3,.v false [(.int .i64,.nil)])],[],[]⟩ 3000000 [(.ret,⟨[(2,.v false [(.bool,.nil)])],[],[]⟩),((.exit 0),⟨[],[],[]⟩)] 2 Ie Tryz.func31 0
def Rr:Ax:=Aw [g_0,g_0] (fun d=>(Alt d.1 d.2.1).val) fun r=>([rv g_1 r],[])
theorem Th:Fn Tryz.prog 34 .plain Rr:=mkF [] trivial Tryz.func34 0
def Ah4:Ax:=Aw [g_5,g_5] (fun d=>(We d.1 d.2.1).val) fun r=>([rv g_1 r],[])
theorem Atj:Fn Tryz.prog 386 .plain Ah4:=Df [] trivial ⟨[(0,.v false [(.sl 3 [.int .i64],.ro)]),(1,.v false [(.sl 3 [.int .i64],.ro)]),(5,.v false [(.int .i64,.nil)])],[],[]⟩ 5000000 [(.ret,⟨[(4,.v false [(.bool,.nil)])],[],[]⟩),((.exit 0),⟨[],[],[]⟩)] 4 Hs Tryz.func386 0
def Akt:Ax:=Aw [g_8,g_8] (fun d=>(Aai d.1 d.2.1).val) fun r=>([rv g_1 r],[])
theorem Aux:Fn Tryz.prog 354 .plain Akt:=mkF [(386,.plain,Ah4)] ⟨Atj,trivial⟩ Tryz.func354 0
def An9:Ax:=Aw [g_9,g_9] (fun d=>(Aed d.1 d.2.1).val) fun r=>([rv g_1 r],[])
theorem Axx:Fn Tryz.prog 285 .plain An9:=mkF [(34,.plain,Rr),(354,.plain,Akt)] ⟨Th,Aux,trivial⟩ Tryz.func285 0
def Ah5:Ax:=Aw [H5,H5] (fun d=>(Wh d.1 d.2.1).val) fun r=>([rv g_1 r],[])
theorem Atk:Fn Tryz.prog 147 .plain Ah5:=mkF [(34,.plain,Rr),(285,.plain,An9)] ⟨Th,Axx,trivial⟩ Tryz.func147 0
def Agg:Ax:=Aw [Gf,Gf] (fun d=>(Uc d.1 d.2.1).val) fun r=>([rv g_1 r],[])
theorem Aqh:Fn Tryz.prog 148 .plain Agg:=Df [(34,.plain,Rr)] ⟨Th,trivial⟩ ⟨[(2,.box 2 0),(3,.box 3 0),(5,.v false [(.int .i64,.nil)])],[(2,[(.int .i64,.nil),(.int .i64,.nil),(.sl 86 h_5,.ro)]),(3,[(.int .i64,.nil),(.int .i64,.nil),(.sl 86 h_5,.ro)])],[]⟩ 5000000 [(.ret,⟨[(4,.v false [(.bool,.nil)])],[],[]⟩),((.exit 0),⟨[],[],[]⟩)] 4 Gt Tryz.func148 0
def Ah6:Ax:=Aw [Rp,Rp] (fun d=>(Wi d.1 d.2.1).val) fun r=>([rv g_1 r],[])
theorem Atl:Fn Tryz.prog 32 .plain Ah6:=mkF [(34,.plain,Rr),(147,.plain,Ah5),(148,.plain,Agg)] ⟨Th,Atk,Aqh,trivial⟩ Tryz.func32 0
def Aoa:Ax:=Aw [Gf,g_7] (fun d=>(Uy d.1 d.2.1).val) fun r=>([rv A4m r.1,rv g_1 r.2],[])
theorem Axy:Fn Tryz.prog 33 .plain Aoa:=mkF [(149,.plain,U3),(144,.plain,Nn),(150,.plain,Ih)] ⟨Aaw,Qm,Jp,trivial⟩ Tryz.func33 0
end
end Go.Proofs.YtmhhajdeafijmaaGreat

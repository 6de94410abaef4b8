/-
  That the functions of the seat answer what the terms of text W say; nothing is assumed.
-/
import Derived.Test.YthccfdmiejmbaaaGreatW
import Derived.Test.YthccfdmiejmbaaaGreatProg
import Derived.KernelRfl
namespace Go.Proofs.YthccfdmiejmbaaaGreat
open Go.RowKit
set_option linter.unusedVariables false
set_option maxRecDepth 100000
set_option maxHeartbeats 4000000
noncomputable section
abbrev h_0:List Sh:=[.int .i64,.int .i64,.bool,.int .u8]
abbrev h_1:List Sh:=[.sl 5 [.int .u8],.int .i64,.int .i64]
abbrev h_2:List Sh:=[.int .i64,.int .i64,.int .i64,.int .i64]
abbrev h_3:List Sh:=[.sl 3 [.int .i64],.sl 5 [.int .u8],.int .i64]
abbrev h_4:List Sh:=[.int .i64,.int .i64,.sl 5 [.int .u8],.int .i64]
abbrev h_5:List Sh:=[.int .i64,.sl 5 [.int .u8],.int .i64,.int .i64,.sl 3 [.int .i64]]
abbrev h_6:List Sh:=[.int .i64,.int .i64,.sl 228 h_4]
abbrev h_7:List Sh:=[.int .i64,.int .i64,.sl 319 h_4]
abbrev h_8:List Sh:=[.int .i64,.int .i64,.int .i64,.sl 5 [.int .u8],.sl 5 [.int .u8],.int .i64,.int .i64,.sl 5 [.int .u8],.sl 5 [.int .u8],.int .i64,.int .i64,.int .i64]
abbrev h_9:List Sh:=[.int .i64,.int .i64,.sl 5 [.int .u8],.sl 5 [.int .u8],.int .i64,.sl 5 [.int .u8],.sl 5 [.int .u8],.int .i64,.int .i64,.sl 5 [.int .u8],.sl 5 [.int .u8]]
abbrev Aqb:List Sh:=[.int .i64,.int .i64,.int .i64,.int .i64,.sl 5 [.int .u8],.sl 5 [.int .u8],.int .i64,.sl 5 [.int .u8],.sl 5 [.int .u8],.int .i64,.int .i64,.sl 5 [.int .u8],.sl 5 [.int .u8]]
abbrev Bww:List Sh:=[.int .i64,.sl 5 [.int .u8],.int .i64,.sl 5 [.int .u8],.int .i64,.int .i64,.sl 3 [.int .i64],.int .i64,.sl 5 [.int .u8],.int .i64,.int .i64,.sl 3 [.int .i64],.bool,.int .i64,.sl 5 [.int .u8]]
abbrev Dm:List Sh:=[.int .i64,.sl 5 [.int .u8],.sl 5 [.int .u8],.int .i64,.sl 5 [.int .u8],.int .i64,.sl 5 [.int .u8],.int .i64,.int .i64,.sl 3 [.int .i64],.int .i64,.sl 5 [.int .u8],.int .i64,.int .i64,.sl 3 [.int .i64],.bool,.int .i64,.sl 5 [.int .u8],.int .i64,.int .i64,.sl 228 h_4,.int .i64,.int .i64,.bool]
abbrev Byc:List Sh:=[.int .i64,.sl 5 [.int .u8],.sl 5 [.int .u8],.int .i64,.sl 5 [.int .u8],.int .i64,.sl 5 [.int .u8],.int .i64,.int .i64,.sl 3 [.int .i64],.int .i64,.sl 5 [.int .u8],.int .i64,.int .i64,.sl 3 [.int .i64],.bool,.int .i64,.sl 5 [.int .u8],.int .i64,.int .i64,.sl 319 h_4,.int .i64,.int .i64,.bool]
abbrev Bwx:List Sh:=[.sl 22 [.sl 5 [.int .u8]],.sl 5 [.int .u8],.sl 5 [.int .u8],.int .i64,.int .i64,.sl 113 Dm,.sl 175 h_2]
abbrev Byh:List Sh:=[.sl 22 [.sl 5 [.int .u8]],.sl 5 [.int .u8],.sl 5 [.int .u8],.int .i64,.int .i64,.sl 264 Byc,.sl 213 h_2]
abbrev g_0:Bool×List Sh:=(false,[.sl 5 [.int .u8]])
abbrev g_1:Bool×List Sh:=(false,[.bool])
abbrev g_2:Bool×List Sh:=(true,h_1)
abbrev g_3:Bool×List Sh:=(false,[.int .i64])
abbrev g_4:Bool×List Sh:=(false,[.sl 22 [.sl 5 [.int .u8]]])
abbrev g_5:Bool×List Sh:=(true,[.sl 5 [.int .u8],.int .i64])
abbrev g_6:Bool×List Sh:=(false,[.sl 3 [.int .i64]])
abbrev g_7:Bool×List Sh:=(false,[.str])
abbrev g_8:Bool×List Sh:=(true,[.sl 5 [.int .u8]])
abbrev g_9:Bool×List Sh:=(true,[.int .i64,.sl 113 Dm])
abbrev Kb:Bool×List Sh:=(true,h_5)
abbrev F0:Bool×List Sh:=(true,Bww)
abbrev Ev:Bool×List Sh:=(true,[.int .i64,.int .i64])
abbrev Ma:Bool×List Sh:=(true,[.int .i64,.sl 3 [.int .i64]])
abbrev H5:Bool×List Sh:=(true,h_6)
abbrev Iw:Bool×List Sh:=(true,Dm)
abbrev Nn:Bool×List Sh:=(false,[.sl 175 h_2])
abbrev Hk:Bool×List Sh:=(true,Bwx)
abbrev En:Bool×List Sh:=(true,h_9)
abbrev Btc:Bool×List Sh:=(true,h_4)
abbrev Bf7:Bool×List Sh:=(true,h_3)
abbrev Byd:Bool×List Sh:=(false,[.int .u8])
abbrev Alc:Bool×List Sh:=(true,h_8)
abbrev Abd:Bool×List Sh:=(false,[.sl 85 Aqb])
abbrev Abe:Bool×List Sh:=(false,[.sl 95 h_8])
def tys:List (Nat×Ty):=[(3,⟨false,[.int .i64],[],false,[]⟩),
 (4,⟨false,[.bool],[],false,[]⟩),
 (5,⟨false,[.int .u8],[],false,[]⟩),
 (9,⟨false,[.str],[],false,[]⟩),
 (22,⟨false,[.sl 5 [.int .u8]],[],false,[]⟩),
 (24,⟨false,[.sl 22 [.sl 5 [.int .u8]]],[],false,[]⟩),
 (26,⟨true,[.sl 5 [.int .u8]],[(0,1)],false,[]⟩),
 (28,⟨true,[.sl 5 [.int .u8],.int .i64],[(0,1),(1,1)],false,[]⟩),
 (29,⟨false,[.sl 113 Dm],[],false,[]⟩),
 (31,⟨true,[.int .i64,.sl 113 Dm],[(0,1),(1,1)],false,[]⟩),
 (32,⟨false,[.sl 175 h_2],[],false,[]⟩),
 (34,⟨true,Bwx,[(0,1),(1,1),(2,2),(4,2),(6,1)],false,[]⟩),
 (36,⟨true,[.int .i64,.int .i64],[(0,1),(1,1)],true,[]⟩),
 (39,⟨false,[.sl 85 Aqb],[],false,[]⟩),
 (40,⟨false,[.sl 95 h_8],[],false,[]⟩),
 (44,⟨true,h_9,[(0,1),(1,1),(2,1),(3,1),(4,1),(5,1),(6,1),(7,1),(8,1),(9,1),(10,1)],false,[]⟩),
 (85,⟨true,Aqb,[(0,2),(2,11)],false,[]⟩),
 (95,⟨true,h_8,[(0,1),(1,1),(2,1),(3,1),(4,1),(5,1),(6,1),(7,1),(8,1),(9,2),(11,1)],false,[]⟩),
 (102,⟨false,[.sl 3 [.int .i64]],[],false,[]⟩),
 (104,⟨true,[.int .i64,.sl 3 [.int .i64]],[(0,1),(1,1)],false,[]⟩),
 (106,⟨true,h_5,[(0,1),(1,1),(2,1),(3,2)],false,[]⟩),
 (108,⟨true,Bww,[(0,1),(1,1),(2,5),(7,5),(12,1),(13,1),(14,1)],false,[]⟩),
 (109,⟨false,[.sl 228 h_4],[],false,[]⟩),
 (111,⟨true,h_6,[(0,2),(2,1)],false,[36,109]⟩),
 (113,⟨true,Dm,[(0,1),(1,1),(2,1),(3,15),(18,3),(21,1),(22,1),(23,1)],false,[]⟩),
 (156,⟨true,h_1,[(0,1),(1,1),(2,1)],false,[]⟩),
 (175,⟨true,h_2,[(0,2),(2,1),(3,1)],true,[]⟩),
 (228,⟨true,h_4,[(0,2),(2,1),(3,1)],false,[]⟩),
 (269,⟨false,[.int .u64],[],false,[]⟩),
 (309,⟨true,h_3,[(0,1),(1,1),(2,1)],false,[]⟩)]
theorem Ji:Bnj Tryz.prog tys=true:=by kernel_rfl
theorem Ms:Tryz.prog.follows .mixedOrders=true:=by kernel_rfl
abbrev D7 (C:Fns):Cfg:=⟨A6m tys,Acf C,Xo C,3,4⟩
theorem mkF {f:FuncId} {fn:Func} {kd:Kind} {ps:List (Bool×List Sh)} {R:Type} {T:No ps->Tree R} {rvs:R->List RV×List RV} (C:Fns) (hc:Kn Tryz.prog C) (hf:Tryz.prog.funcs[f]? =some fn) (np:Nat) (hn:(fn.name== "runtime.NumGoroutine")=false:=by kernel_rfl) (hb:fn.body.isSome=true:=by kernel_rfl) (hl:B9 (fn.body.getD .skip)=[]:=by kernel_rfl)
  (he: ∀d,Ia (D7 C) np (fun _ _=>.fail) fn kd (mkA ps d)=(T d).run fun r=>some (rvs r):=by intro d;kernel_rfl):Fn Tryz.prog f kd (Ar ps (fun d=>(T d).val) rvs):=
 Ny (Gu Ms Ji hc) hf hn hb (fun cx b hp hbb=>by rw[hl]at hbb;cases hbb) he
abbrev lpq (r:Nat) (K:Sk) (z:Nat) (X:List (Ex×Sk)) (B:K.den->Option (K.den⊕Wd X)):G7:=fun i st=>cond (Nat.beq i r) (lam K z X B st) .fail
theorem Da {f:FuncId} {fn:Func} {kd:Kind} {ps:List (Bool×List Sh)} {R:Type} {T:No ps->Tree R} {rvs:R->List RV×List RV} (C:Fns) (hc:Kn Tryz.prog C) (K:Sk) (z:Nat) (X:List (Ex×Sk)) (r:Nat) (B:K.den->Option (K.den⊕Wd X)) (hf:Tryz.prog.funcs[f]? =some fn) (np:Nat) (hn:(fn.name== "runtime.NumGoroutine")=false:=by kernel_rfl) (hb:fn.body.isSome=true:=by kernel_rfl) (h1:B9 (fn.body.getD .skip)=[Bf fn 0]:=by kernel_rfl) (h2:B9 (Bf fn 0)=[]:=by kernel_rfl)
  (hq:lpq r K z X B (Qf (Bf fn 0))=lam K z X B:=by kernel_rfl) (hl: ∀d,bod (D7 C) np fn.ntmps (lpq r K z X B) (Bf fn 0) K z X d=B d:=by intro d;kernel_rfl)
  (he: ∀d,Ia (D7 C) np (lpq r K z X B) fn kd (mkA ps d)=(T d).run fun r=>some (rvs r):=by intro d;kernel_rfl):Fn Tryz.prog f kd (Ar ps (fun d=>(T d).val) rvs):=
 Ny (Gu Ms Ji hc) hf hn hb (fun cx b hp hbb=>Ds h1 ⟨Fs (Gu Ms Ji hc) hp (Ds h2 trivial) hq hl,trivial⟩ b hbb) he
abbrev Fq (f:FuncId) (F:As):Prop:=Fn Tryz.prog f .plain F
abbrev Fz (f:FuncId) (F:As):FuncId×Kind×As:=(f,.plain,F)
abbrev pA (f:FuncId) (F:As):Prop:=Fn Tryz.prog f (.box [3] true true) F
abbrev qA (f:FuncId) (F:As):FuncId×Kind×As:=(f,.box [3] true true,F)
abbrev pB (f:FuncId) (F:As):Prop:=Fn Tryz.prog f (.box [3] true false) F
abbrev qB (f:FuncId) (F:As):FuncId×Kind×As:=(f,.box [3] true false,F)
abbrev Fo (g:Bool×List Sh) (r:dens g.2):List RV×List RV:=([rv g r],[])
abbrev sI:Sh×Tok:=(.int .i64,.nil)
abbrev sB:Sh×Tok:=(.sl 5 [.int .u8],.ro)
abbrev sL:Sh×Tok:=(.sl 3 [.int .i64],.ro)
abbrev sO (n:Nat):Sh×Tok:=(.sl 5 [.int .u8],.own n)
abbrev sR (s:Sh):Sh×Tok:=(s,.ro)
abbrev sW (s:Sh) (n:Nat):Sh×Tok:=(s,.own n)
abbrev vS (n:Nat) (x:Sh×Tok):Nat×PSk:=(n,.v false [x])
abbrev vI (n:Nat):Nat×PSk:=vS n sI
abbrev vX (n:Nat):Nat×PSk:=(n,.box n 0)
abbrev eB:Ex×Sk:=(.ret,⟨[(2,.v false [(.bool,.nil)])],[],[]⟩)
def Bl2:As:=Ar [g_0] (fun d=>(Bl3 d.1).val) (Fo g_1)
theorem Btd:Fq 5 Bl2:=mkF [] trivial Tryz.func5 0
def Bcd:As:=Ar [g_0] (fun d=>(Awv d.1).val) (Fo g_2)
theorem Bnk:Fn Tryz.prog 29 .ret Bcd:=Da [] trivial ⟨[vS 0 sB,vI 3,vI 4],[],[]⟩ 4000000 [(.exit 0,⟨[vS 0 sB,vI 3],[],[]⟩)] 3 Acg Tryz.func29 0
def Xp:As:=Ar [g_2] (fun d=>(Aqc d.1).val) fun r=>([rv g_3 r.1],[rv g_2 r.2])
theorem Ach:pA 212 Xp:=mkF [] trivial Tryz.func212 1
def C8:As:=Ar [g_2,g_3] (fun d=>(Ald d.1 d.2.1).val) fun r=>([rv g_3 r.1],[rv g_2 r.2])
theorem Cw:pA 118 C8:=mkF [qA 212 Xp] ⟨Ach,trivial⟩ Tryz.func118 1
def Fa:As:=Ar [g_2,g_3] (fun d=>(Ale d.1 d.2.1).val) fun r=>([rv g_0 r.1],[rv g_2 r.2])
theorem Ew:pA 127 Fa:=Da [qA 212 Xp] ⟨Ach,trivial⟩ ⟨[vX 0,vI 1,vS 5 (sO 4000000),vI 6],[(0,[(.sl 5 [.int .u8],(.pin 0)),sI,sI])],[4000000]⟩ 4000000 [(.exit 0,⟨[vX 0,vS 5 (sO 4000000)],[(0,[(.sl 5 [.int .u8],(.pin 0)),sI,sI])],[4000000]⟩)] 3 Qg Tryz.func127 1
def A1x:As:=Ar [g_2] (fun d=>(Alf d.1).val) fun r=>([rv g_4 r.1],[rv g_2 r.2])
theorem Bf8:pA 209 A1x:=Da [qA 118 C8,qA 127 Fa] ⟨Cw,Ew,trivial⟩ ⟨[vX 0,vS 3 (sW (.sl 22 [.sl 5 [.int .u8]]) 4000000),vI 4],[(0,[(.sl 5 [.int .u8],(.pin 0)),sI,sI])],[4000000]⟩ 4000000 [(.exit 0,⟨[vX 0,vS 3 (sW (.sl 22 [.sl 5 [.int .u8]]) 4000000)],[(0,[(.sl 5 [.int .u8],(.pin 0)),sI,sI])],[4000000]⟩)] 3 Vt Tryz.func209 1
def Alg:As:=Ar [g_5] (fun d=>(Alh d.1).val) (Fo g_5)
theorem Aww:Fq 156 Alg:=mkF [] trivial Tryz.func156 0
def Cp:As:=Ar [g_3,g_3,g_3] (fun d=>(A3w d.1 d.2.1 d.2.2.1).val) (Fo g_1)
theorem Ch:Fq 47 Cp:=mkF [] trivial Tryz.func47 0
def Aqd:As:=Ar [g_5] (fun d=>(Aqe d.1).val) (Fo g_1)
theorem A1y:Fq 81 Aqd:=mkF [Fz 47 Cp] ⟨Ch,trivial⟩ Tryz.func81 0
def Ls:As:=Ar [g_0,g_3,g_3] (fun d=>(A3x d.1 d.2.1 d.2.2.1).val) (Fo g_0)
theorem K0:Fq 165 Ls:=Da [] trivial ⟨[vI 1,vS 7 (sO 6000000),vI 8],[],[6000000]⟩ 6000000 [(.exit 0,⟨[vS 7 (sO 6000000)],[],[6000000]⟩)] 5 Xq Tryz.func165 0
def Bl4:As:=Ar [g_3] (fun d=>(A93 d.1).val) (Fo g_0)
theorem Bte:Fq 333 Bl4:=Da [Fz 165 Ls] ⟨K0,trivial⟩ ⟨[vI 0,vS 3 (sO 5000000)],[],[5000000]⟩ 5000000 [(.exit 0,⟨[vI 0,vS 3 (sO 5000000)],[],[5000000]⟩)] 4 Awx Tryz.func333 0
def Bce:As:=Ar [] (fun d=>(Bcf).val) (Fo g_6)
theorem Bnl:Fq 334 Bce:=mkF [] trivial Tryz.func334 0
def A1z:As:=Ar [g_6] (fun d=>(Ali d.1).val) (Fo g_1)
theorem Bf9:Fq 359 A1z:=Da [Fz 47 Cp] ⟨Ch,trivial⟩ ⟨[vS 0 sL,vI 3],[],[]⟩ 3000000 [eB,(.exit 0,⟨[vS 0 sL],[],[]⟩)] 2 Qh Tryz.func359 0
def Bl5:As:=Ar [] (fun d=>(Bl6).val) (Fo g_6)
theorem Btf:Fq 360 Bl5:=mkF [] trivial Tryz.func360 0
def A3y:As:=Ar [g_0,g_3,g_3] (fun d=>(A3z d.1 d.2.1 d.2.2.1).val) fun r=>([rv g_3 r.1,rv g_3 r.2.1,rv g_1 r.2.2],[])
theorem Bcg:Fq 159 A3y:=Da [] trivial ⟨[vS 0 sB,vI 1,vI 2,vI 9,vI 10],[],[]⟩ 6000000 [(.exit 0,⟨[vI 1,vI 2,vI 9],[],[]⟩)] 5 Tn Tryz.func159 0
def A94:As:=Ar [g_3,g_3] (fun d=>(A95 d.1 d.2.1).val) (Fo g_3)
theorem Bga:Fq 362 A94:=mkF [] trivial Tryz.func362 0
def Awy:As:=Ar [g_0] (fun d=>(Xr d.1).val) (Fo g_6)
def Rr:Fns:=[Fz 159 A3y,Fz 362 A94]
theorem Ag1:CfgOk Tryz.prog (D7 Rr):=Gu Ms Ji (show Kn Tryz.prog Rr from⟨Bcg,Bga,trivial⟩)
def Ajq:Sk:=⟨[vS 3 (sW (.sl 3 [.int .i64]) 11000000),vI 8],[],[11000000]⟩
def Ajr:List (Ex×Sk):=[(.exit 2,⟨[vS 3 (sW (.sl 3 [.int .i64]) 11000000)],[],[11000000]⟩)]
def An8:Sk:=⟨[vS 0 sB,vS 3 (sW (.sl 3 [.int .i64]) 6000000),vI 4],[],[6000000]⟩
def An9:List (Ex×Sk):=[(.exit 0,⟨[vS 3 (sW (.sl 3 [.int .i64]) 6000000)],[],[6000000]⟩)]
def Rs:G7:=fun i st=>cond (Nat.beq i 5) (lam An8 6000000 An9 Lb st) <| cond (Nat.beq i 10) (lam Ajq 11000000 Ajr Jy st) <| .fail
theorem A6n (cx:Cx) (hp:cx.pin.length<=0):Ek Tryz.prog cx Tryz.f361.ntmps Rs (Bf Tryz.f361 0):=Fs Ag1 hp (Ds (by kernel_rfl:B9 (Bf Tryz.f361 0)=[]) trivial) (by kernel_rfl) (fun d=>(by kernel_rfl:bod (D7 Rr) 0 Tryz.f361.ntmps Rs (Bf Tryz.f361 0) An8 6000000 An9 d=Lb d))
theorem A30 (cx:Cx) (hp:cx.pin.length<=0):Ek Tryz.prog cx Tryz.f361.ntmps Rs (Bf Tryz.f361 1):=Fs Ag1 hp (Ds (by kernel_rfl:B9 (Bf Tryz.f361 1)=[]) trivial) (by kernel_rfl) (fun d=>(by kernel_rfl:bod (D7 Rr) 0 Tryz.f361.ntmps Rs (Bf Tryz.f361 1) Ajq 11000000 Ajr d=Jy d))
theorem Bet:Fq 361 Awy:=Ny Ag1 Tryz.func361 (by kernel_rfl) (by kernel_rfl) (fun cx b hp hb=>Ds (by kernel_rfl:B9 (Tryz.f361.body.getD .skip)=[Bf Tryz.f361 0,Bf Tryz.f361 1]) ⟨A6n cx hp,A30 cx hp,trivial⟩ b hb) (fun d=>(by kernel_rfl:Ia (D7 Rr) 0 Rs Tryz.f361 .plain (mkA [g_0] d)=(Xr d.1).run fun r=>some ([rv g_6 r],[])))
def Awz:As:=Ar [g_6,g_0] (fun d=>(Xs d.1 d.2.1).val) (Fo g_6)
def Rt:Fns:=[Fz 359 A1z,Fz 360 Bl5,Fz 361 Awy,Fz 362 A94]
theorem Ag2:CfgOk Tryz.prog (D7 Rt):=Gu Ms Ji (show Kn Tryz.prog Rt from⟨Bf9,Btf,Bet,Bga,trivial⟩)
def Ajs:Sk:=⟨[vS 0 sL,vS 5 (sW (.sl 3 [.int .i64]) 23000000),vS 19 (sW (.sl 3 [.int .i64]) 23000001),vI 20],[],[23000000,23000001]⟩
def Ajt:List (Ex×Sk):=[(.exit 2,⟨[vS 5 (sW (.sl 3 [.int .i64]) 23000000)],[],[23000000]⟩)]
def Aoa:Sk:=⟨[vS 0 sL,vS 5 (sW (.sl 3 [.int .i64]) 9000000),vS 6 (sW (.sl 3 [.int .i64]) 9000001),vS 7 (sW (.sl 3 [.int .i64]) 9000002),vI 8,vI 9,vI 10,vI 11,vI 12,vI 13,vI 14,vI 15,vI 16],[],[9000000,9000001,9000002]⟩
def Aob:List (Ex×Sk):=[(.exit 0,⟨[vS 0 sL,vS 5 (sW (.sl 3 [.int .i64]) 9000000),vI 8,vI 9,vI 10,vI 11,vI 12,vI 13,vI 14,vI 15],[],[9000000]⟩)]
def Ru:G7:=fun i st=>cond (Nat.beq i 8) (lam Aoa 9000000 Aob I0 st) <| cond (Nat.beq i 22) (lam Ajs 23000000 Ajt Ib st) <| .fail
theorem A6o (cx:Cx) (hp:cx.pin.length<=0):Ek Tryz.prog cx Tryz.f335.ntmps Ru (Bf Tryz.f335 0):=Fs Ag2 hp (Ds (by kernel_rfl:B9 (Bf Tryz.f335 0)=[]) trivial) (by kernel_rfl) (fun d=>(by kernel_rfl:bod (D7 Rt) 0 Tryz.f335.ntmps Ru (Bf Tryz.f335 0) Aoa 9000000 Aob d=I0 d))
theorem A31 (cx:Cx) (hp:cx.pin.length<=0):Ek Tryz.prog cx Tryz.f335.ntmps Ru (Bf Tryz.f335 1):=Fs Ag2 hp (Ds (by kernel_rfl:B9 (Bf Tryz.f335 1)=[]) trivial) (by kernel_rfl) (fun d=>(by kernel_rfl:bod (D7 Rt) 0 Tryz.f335.ntmps Ru (Bf Tryz.f335 1) Ajs 23000000 Ajt d=Ib d))
theorem Beu:Fq 335 Awz:=Ny Ag2 Tryz.func335 (by kernel_rfl) (by kernel_rfl) (fun cx b hp hb=>Ds (by kernel_rfl:B9 (Tryz.f335.body.getD .skip)=[Bf Tryz.f335 0,Bf Tryz.f335 1]) ⟨A6o cx hp,A31 cx hp,trivial⟩ b hb) (fun d=>(by kernel_rfl:Ia (D7 Rt) 0 Ru Tryz.f335 .plain (mkA [g_6,g_0] d)=(Xs d.1 d.2.1).run fun r=>some ([rv g_6 r],[])))
def Bch:As:=Ar [g_6] (fun d=>(Aw0 d.1).val) (Fo g_0)
theorem Bnm:Fq 336 Bch:=Da [Fz 165 Ls] ⟨K0,trivial⟩ ⟨[vS 0 sL,vS 3 (sO 4000000),vI 4],[],[4000000]⟩ 4000000 [(.exit 0,⟨[vS 3 (sO 4000000)],[],[4000000]⟩)] 3 Qw Tryz.func336 0
def A96:As:=Ar [g_0] (fun d=>(A97 d.1).val) (Fo g_0)
theorem Bgb:Fq 301 A96:=Da [Fz 333 Bl4,Fz 334 Bce,Fz 335 Awz,Fz 336 Bch] ⟨Bte,Bnl,Beu,Bnm,trivial⟩ ⟨[vS 3 (sO 7000000),vS 4 (sW (.sl 3 [.int .i64]) 7000001),vI 5],[],[7000000,7000001]⟩ 7000000 [(.exit 0,⟨[vS 4 (sW (.sl 3 [.int .i64]) 7000000)],[],[7000000]⟩)] 6 W4 Tryz.func301 0
def Aw1:As:=Ar [g_0] (fun d=>(Ag3 d.1).val) (Fo g_0)
theorem Bev:Fq 300 Aw1:=Da [Fz 301 A96] ⟨Bgb,trivial⟩ ⟨[vS 3 (sO 7000000)],[],[7000000]⟩ 7000000 [(.exit 0,⟨[vS 3 (sO 7000000)],[],[7000000]⟩)] 6 To Tryz.func300 0
def Abf:As:=Ar [g_0,g_0] (fun d=>(A32 d.1 d.2.1).val) (Fo g_0)
theorem Adk:Fq 243 Abf:=Da [Fz 300 Aw1,Fz 301 A96] ⟨Bev,Bgb,trivial⟩ ⟨[vS 1 sB,vS 5 (sO 8000000),vS 6 (sO 8000001),vS 7 (sO 8000002),vI 8],[],[8000000,8000001,8000002]⟩ 8000000 [(.exit 0,⟨[vS 1 sB,vS 6 (sO 8000000),vS 7 (sO 8000001)],[],[8000000,8000001]⟩)] 7 Tp Tryz.func243 0
def A6p:As:=Ar [g_0,g_3] (fun d=>(Aqf d.1 d.2.1).val) (Fo g_0)
theorem Bj4:Fq 162 A6p:=mkF [Fz 47 Cp,Fz 165 Ls,Fz 243 Abf] ⟨Ch,K0,Adk,trivial⟩ Tryz.func162 0
def A33:As:=Ar [g_5] (fun d=>(A34 d.1).val) fun r=>([rv g_5 r.1,rv g_0 r.2],[])
theorem Bci:Fq 52 A33:=mkF [Fz 156 Alg,Fz 81 Aqd,Fz 162 A6p] ⟨Aww,A1y,Bj4,trivial⟩ Tryz.func52 0
def A6q:As:=Ar [g_0,g_0,g_3] (fun d=>(Aqg d.1 d.2.1 d.2.2.1).val) fun r=>([rv g_0 r.1,rv g_1 r.2],[])
theorem Bj5:Fq 255 A6q:=Da [Fz 47 Cp,Fz 243 Abf] ⟨Ch,Adk,trivial⟩ ⟨[vS 0 sB,vS 1 sB,vI 2,vS 8 (sO 7000000),vS 9 (sO 7000001),vI 10],[],[7000000,7000001]⟩ 7000000 [(.exit 0,⟨[vI 2,vS 8 (sO 7000000)],[],[7000000]⟩)] 6 N6 Tryz.func255 0
def Pi:As:=Ar [g_0,g_7] (fun d=>(Aqh d.1 d.2.1).val) (Fo g_0)
theorem Qx:Fq 176 Pi:=mkF [Fz 255 A6q] ⟨Bj5,trivial⟩ Tryz.func176 0
def Aqi:As:=Ar [g_0] (fun d=>(Aqj d.1).val) (Fo g_8)
theorem A10:Fq 213 Aqi:=mkF [Fz 176 Pi] ⟨Qx,trivial⟩ Tryz.func213 0
def Aqk:As:=Ar [g_3] (fun d=>(Aql d.1).val) (Fo g_9)
theorem A11:Fq 276 Aqk:=mkF [Fz 47 Cp] ⟨Ch,trivial⟩ Tryz.func276 0
def Aju:As:=Ar [g_8] (fun d=>(Bcj d.1).val) (Fo g_1)
theorem Aqm:Fq 80 Aju:=mkF [] trivial Tryz.func80 0
def A35:As:=Ar [g_9] (fun d=>(A36 d.1).val) (Fo g_3)
theorem Bck:Fq 174 A35:=Da [] trivial ⟨[vX 1,vI 3,vI 4],[(1,[sI,sR (.sl 113 Dm)])],[]⟩ 4000000 [(.exit 0,⟨[vI 3],[],[]⟩)] 3 Xt Tryz.func174 0
def Alj:As:=Ar [Kb] (fun d=>(Alk d.1).val) (Fo g_1)
theorem Aw2:Fq 303 Alj:=mkF [] trivial Tryz.func303 0
def Avr:As:=Ar [F0] (fun d=>(Aef d.1).val) (Fo g_1)
theorem A98:Fq 250 Avr:=mkF [Fz 303 Alj] ⟨Aw2,trivial⟩ Tryz.func250 0
def Rv:As:=Ar [g_3] (fun d=>(Aqn d.1).val) (Fo Ev)
theorem Rw:Fq 126 Rv:=mkF [Fz 47 Cp] ⟨Ch,trivial⟩ Tryz.func126 0
def Aw3:As:=Ar [Ma,g_3] (fun d=>(Aw4 d.1 d.2.1).val) (Fo g_1)
theorem A6r:Fq 340 Aw3:=mkF [] trivial Tryz.func340 0
def Aw5:As:=Ar [Ma] (fun d=>(Ajv d.1).val) (Fo g_1)
def Adl:Fns:=[Fz 47 Cp,Fz 340 Aw3]
theorem Aw6:CfgOk Tryz.prog (D7 Adl):=Gu Ms Ji (show Kn Tryz.prog Adl from⟨Ch,A6r,trivial⟩)
def Aw7:Sk:=⟨[vX 1,vI 4],[(1,[sI,sL])],[]⟩
def Aw8:List (Ex×Sk):=[eB,(.exit 2,⟨[],[],[]⟩)]
def A12:Sk:=⟨[vX 1,vI 3],[(1,[sI,sL])],[]⟩
def A13:List (Ex×Sk):=[eB,(.exit 0,⟨[vX 1],[(1,[sI,sL])],[]⟩)]
def Adm:G7:=fun i st=>cond (Nat.beq i 4) (lam A12 5000000 A13 Np st) <| cond (Nat.beq i 11) (lam Aw7 12000000 Aw8 Jj st) <| .fail
theorem Bgc (cx:Cx) (hp:cx.pin.length<=0):Ek Tryz.prog cx Tryz.f337.ntmps Adm (Bf Tryz.f337 0):=Fs Aw6 hp (Ds (by kernel_rfl:B9 (Bf Tryz.f337 0)=[]) trivial) (by kernel_rfl) (fun d=>(by kernel_rfl:bod (D7 Adl) 0 Tryz.f337.ntmps Adm (Bf Tryz.f337 0) A12 5000000 A13 d=Np d))
theorem Bew (cx:Cx) (hp:cx.pin.length<=0):Ek Tryz.prog cx Tryz.f337.ntmps Adm (Bf Tryz.f337 1):=Fs Aw6 hp (Ds (by kernel_rfl:B9 (Bf Tryz.f337 1)=[]) trivial) (by kernel_rfl) (fun d=>(by kernel_rfl:bod (D7 Adl) 0 Tryz.f337.ntmps Adm (Bf Tryz.f337 1) Aw7 12000000 Aw8 d=Jj d))
theorem A6s:Fq 337 Aw5:=Ny Aw6 Tryz.func337 (by kernel_rfl) (by kernel_rfl) (fun cx b hp hb=>Ds (by kernel_rfl:B9 (Tryz.f337.body.getD .skip)=[Bf Tryz.f337 0,Bf Tryz.f337 1]) ⟨Bgc cx hp,Bew cx hp,trivial⟩ b hb) (fun d=>(by kernel_rfl:Ia (D7 Adl) 0 Adm Tryz.f337 .plain (mkA [Ma] d)=(Ajv d.1).run fun r=>some ([rv g_1 r],[])))
def Aqo:As:=Ar [Kb] (fun d=>(A37 d.1).val) (Fo g_1)
theorem Aw9:Fq 304 Aqo:=mkF [Fz 47 Cp,Fz 337 Aw5] ⟨Ch,A6s,trivial⟩ Tryz.func304 0
def Mt:As:=Ar [F0] (fun d=>(Aqp d.1).val) (Fo g_1)
theorem Nq:Fq 251 Mt:=mkF [Fz 47 Cp,Fz 304 Aqo,Fz 303 Alj] ⟨Ch,Aw9,Aw2,trivial⟩ Tryz.func251 0
def Pj:As:=Ar [g_0,g_0] (fun d=>(A6t d.1 d.2.1).val) (Fo g_1)
theorem Qy:Fq 65 Pj:=mkF [] trivial Tryz.func65 0
def Ic:As:=Ar [Ev] (fun d=>(Aqq d.1).val) (Fo g_1)
theorem H7:Fq 48 Ic:=mkF [Fz 47 Cp] ⟨Ch,trivial⟩ Tryz.func48 0
def Us:As:=Ar [H5] (fun d=>(Aci d.1).val) (Fo g_1)
def Ut:Fns:=[Fz 48 Ic,Fz 47 Cp]
theorem All:CfgOk Tryz.prog (D7 Ut):=Gu Ms Ji (show Kn Tryz.prog Ut from⟨H7,Ch,trivial⟩)
def Avs:Sk:=⟨[vX 1,vI 3],[(1,[sI,sI,sR (.sl 228 h_4)])],[]⟩
def Avt:List (Ex×Sk):=[eB,(.exit 0,⟨[],[],[]⟩)]
def Aoc:Sk:=⟨[vX 1,vI 3,vX 4,vI 5],[(1,[sI,sI,sR (.sl 228 h_4)]),(4,[sI,sI,sB,sI])],[]⟩
def Aod:List (Ex×Sk):=[eB,(.exit 2,⟨[vX 1,vI 3],[(1,[sI,sI,sR (.sl 228 h_4)])],[]⟩)]
def Uu:G7:=fun i st=>cond (Nat.beq i 10) (lam Aoc 11000000 Aod I1 st) <| cond (Nat.beq i 4) (lam Avs 5000000 Avt Me st) <| .fail
theorem A6u (cx:Cx) (hp:cx.pin.length<=0):Ek Tryz.prog cx Tryz.f252.ntmps Uu (Bf Tryz.f252 1):=Fs All hp (Ds (by kernel_rfl:B9 (Bf Tryz.f252 1)=[]) trivial) (by kernel_rfl) (fun d=>(by kernel_rfl:bod (D7 Ut) 0 Tryz.f252.ntmps Uu (Bf Tryz.f252 1) Aoc 11000000 Aod d=I1 d))
theorem A99 (cx:Cx) (hp:cx.pin.length<=0):Ek Tryz.prog cx Tryz.f252.ntmps Uu (Bf Tryz.f252 0):=Fs All hp (Ds (by kernel_rfl:B9 (Bf Tryz.f252 0)=[Bf Tryz.f252 1]) ⟨A6u cx hp,trivial⟩) (by kernel_rfl) (fun d=>(by kernel_rfl:bod (D7 Ut) 0 Tryz.f252.ntmps Uu (Bf Tryz.f252 0) Avs 5000000 Avt d=Me d))
theorem Xu:Fq 252 Us:=Ny All Tryz.func252 (by kernel_rfl) (by kernel_rfl) (fun cx b hp hb=>Ds (by kernel_rfl:B9 (Tryz.f252.body.getD .skip)=[Bf Tryz.f252 0]) ⟨A99 cx hp,trivial⟩ b hb) (fun d=>(by kernel_rfl:Ia (D7 Ut) 0 Uu Tryz.f252 .plain (mkA [H5] d)=(Aci d.1).run fun r=>some ([rv g_1 r],[])))
def Tq:As:=Ar [Iw] (fun d=>(Aqr d.1).val) (Fo g_1)
theorem Uv:Fq 173 Tq:=mkF [Fz 47 Cp,Fz 250 Avr,Fz 126 Rv,Fz 251 Mt,Fz 65 Pj,Fz 252 Us] ⟨Ch,A98,Rw,Nq,Qy,Xu,trivial⟩ Tryz.func173 0
def Afm:As:=Ar [g_9,g_0] (fun d=>(Aqs d.1 d.2.1).val) (Fo g_3)
theorem Alm:Fq 59 Afm:=Da [Fz 65 Pj] ⟨Qy,trivial⟩ ⟨[vS 1 sB,vX 2,vI 5],[(2,[sI,sR (.sl 113 Dm)])],[]⟩ 3000000 [(.ret,⟨[vI 4],[],[]⟩),(.exit 0,⟨[],[],[]⟩)] 2 Rx Tryz.func59 0
def Axa:As:=Ar [g_9] (fun d=>(Axb d.1).val) (Fo g_1)
theorem A6v:Fq 82 Axa:=Da [Fz 47 Cp,Fz 174 A35,Fz 173 Tq,Fz 59 Afm] ⟨Ch,Bck,Uv,Alm,trivial⟩ ⟨[vX 1,vI 3],[(1,[sI,sR (.sl 113 Dm)])],[]⟩ 5000000 [eB,(.exit 0,⟨[],[],[]⟩)] 4 Uw Tryz.func82 0
def Qi:As:=Ar [Nn] (fun d=>(Vu d.1).val) (Fo g_1)
def Qj:Fns:=[Fz 48 Ic,Fz 47 Cp]
theorem Aeg:CfgOk Tryz.prog (D7 Qj):=Gu Ms Ji (show Kn Tryz.prog Qj from⟨H7,Ch,trivial⟩)
def Ajw:Sk:=⟨[vS 0 (sR (.sl 175 h_2)),vI 3],[],[]⟩
def Ajx:List (Ex×Sk):=[eB,(.exit 0,⟨[],[],[]⟩)]
def Ajy:Sk:=⟨[vS 0 (sR (.sl 175 h_2)),vI 3,vI 4],[],[]⟩
def Ajz:List (Ex×Sk):=[eB,(.exit 2,⟨[vS 0 (sR (.sl 175 h_2)),vI 3],[],[]⟩)]
def Qk:G7:=fun i st=>cond (Nat.beq i 9) (lam Ajy 10000000 Ajz Id st) <| cond (Nat.beq i 4) (lam Ajw 5000000 Ajx Jz st) <| .fail
theorem A38 (cx:Cx) (hp:cx.pin.length<=0):Ek Tryz.prog cx Tryz.f83.ntmps Qk (Bf Tryz.f83 1):=Fs Aeg hp (Ds (by kernel_rfl:B9 (Bf Tryz.f83 1)=[]) trivial) (by kernel_rfl) (fun d=>(by kernel_rfl:bod (D7 Qj) 0 Tryz.f83.ntmps Qk (Bf Tryz.f83 1) Ajy 10000000 Ajz d=Id d))
theorem A39 (cx:Cx) (hp:cx.pin.length<=0):Ek Tryz.prog cx Tryz.f83.ntmps Qk (Bf Tryz.f83 0):=Fs Aeg hp (Ds (by kernel_rfl:B9 (Bf Tryz.f83 0)=[Bf Tryz.f83 1]) ⟨A38 cx hp,trivial⟩) (by kernel_rfl) (fun d=>(by kernel_rfl:bod (D7 Qj) 0 Tryz.f83.ntmps Qk (Bf Tryz.f83 0) Ajw 5000000 Ajx d=Jz d))
theorem Tr:Fq 83 Qi:=Ny Aeg Tryz.func83 (by kernel_rfl) (by kernel_rfl) (fun cx b hp hb=>Ds (by kernel_rfl:B9 (Tryz.f83.body.getD .skip)=[Bf Tryz.f83 0]) ⟨A39 cx hp,trivial⟩ b hb) (fun d=>(by kernel_rfl:Ia (D7 Qj) 0 Qk Tryz.f83 .plain (mkA [Nn] d)=(Vu d.1).run fun r=>some ([rv g_1 r],[])))
def Adn:As:=Ar [g_0] (fun d=>(Axc d.1).val) (Fo g_1)
theorem Afn:Fq 84 Adn:=mkF [Fz 47 Cp] ⟨Ch,trivial⟩ Tryz.func84 0
def Xv:As:=Ar [Hk] (fun d=>(Xw d.1).val) (Fo g_1)
def Ry:Fns:=[Fz 47 Cp,Fz 80 Aju,Fz 81 Aqd,Fz 82 Axa,Fz 83 Qi,Fz 84 Adn]
theorem Ag4:CfgOk Tryz.prog (D7 Ry):=Gu Ms Ji (show Kn Tryz.prog Ry from⟨Ch,Aqm,A1y,A6v,Tr,Afn,trivial⟩)
def Aoe:Sk:=⟨[vX 1,vI 4],[(1,[sR (.sl 22 [.sl 5 [.int .u8]]),sB,sB,sI,sI,sR (.sl 113 Dm),sR (.sl 175 h_2)])],[]⟩
def Aof:List (Ex×Sk):=[eB,(.exit 2,⟨[],[],[]⟩)]
def Aog:Sk:=⟨[vX 1,vI 3],[(1,[sR (.sl 22 [.sl 5 [.int .u8]]),sB,sB,sI,sI,sR (.sl 113 Dm),sR (.sl 175 h_2)])],[]⟩
def Aoh:List (Ex×Sk):=[eB,(.exit 0,⟨[vX 1],[(1,[sR (.sl 22 [.sl 5 [.int .u8]]),sB,sB,sI,sI,sR (.sl 113 Dm),sR (.sl 175 h_2)])],[]⟩)]
def Rz:G7:=fun i st=>cond (Nat.beq i 4) (lam Aog 5000000 Aoh Lc st) <| cond (Nat.beq i 9) (lam Aoe 10000000 Aof Ld st) <| .fail
theorem A6w (cx:Cx) (hp:cx.pin.length<=0):Ek Tryz.prog cx Tryz.f11.ntmps Rz (Bf Tryz.f11 0):=Fs Ag4 hp (Ds (by kernel_rfl:B9 (Bf Tryz.f11 0)=[]) trivial) (by kernel_rfl) (fun d=>(by kernel_rfl:bod (D7 Ry) 0 Tryz.f11.ntmps Rz (Bf Tryz.f11 0) Aog 5000000 Aoh d=Lc d))
theorem A6x (cx:Cx) (hp:cx.pin.length<=0):Ek Tryz.prog cx Tryz.f11.ntmps Rz (Bf Tryz.f11 1):=Fs Ag4 hp (Ds (by kernel_rfl:B9 (Bf Tryz.f11 1)=[]) trivial) (by kernel_rfl) (fun d=>(by kernel_rfl:bod (D7 Ry) 0 Tryz.f11.ntmps Rz (Bf Tryz.f11 1) Aoe 10000000 Aof d=Ld d))
theorem Aeh:Fq 11 Xv:=Ny Ag4 Tryz.func11 (by kernel_rfl) (by kernel_rfl) (fun cx b hp hb=>Ds (by kernel_rfl:B9 (Tryz.f11.body.getD .skip)=[Bf Tryz.f11 0,Bf Tryz.f11 1]) ⟨A6w cx hp,A6x cx hp,trivial⟩ b hb) (fun d=>(by kernel_rfl:Ia (D7 Ry) 0 Rz Tryz.f11 .plain (mkA [Hk] d)=(Xw d.1).run fun r=>some ([rv g_1 r],[])))
def Avu:As:=Ar [g_4,g_0,g_3] (fun d=>(Aei d.1 d.2.1 d.2.2.1).val) (Fo Hk)
theorem Baa:Fq 208 Avu:=Da [Fz 52 A33,Fz 213 Aqi,Fz 276 Aqk,Fz 11 Xv] ⟨Bci,A10,A11,Aeh,trivial⟩ ⟨[vS 0 (sR (.sl 22 [.sl 5 [.int .u8]])),vX 6,vX 9,vI 10],[(6,[sW (.sl 22 [.sl 5 [.int .u8]]) 5000000,sO 5000001,sO 5000002,sI,sI,sW (.sl 113 Dm) 5000003,sW (.sl 175 h_2) 5000004]),(9,[sW (.sl 22 [.sl 5 [.int .u8]]) 5000005,sO 5000006,sO 5000007,sI,sI,sW (.sl 113 Dm) 5000008,sW (.sl 175 h_2) 5000009])],[5000000,5000001,5000002,5000003,5000004,5000005,5000006,5000007,5000008,5000009]⟩ 5000000 [(.exit 0,⟨[vX 6,vX 9],[(6,[sW (.sl 22 [.sl 5 [.int .u8]]) 5000000,sO 5000001,sO 5000002,sI,sI,sW (.sl 113 Dm) 5000003,sW (.sl 175 h_2) 5000004]),(9,[sW (.sl 22 [.sl 5 [.int .u8]]) 5000005,sO 5000006,sO 5000007,sI,sI,sW (.sl 113 Dm) 5000008,sW (.sl 175 h_2) 5000009])],[5000000,5000001,5000002,5000003,5000004,5000005,5000006,5000007,5000008,5000009]⟩)] 4 J0 Tryz.func208 0
def Avv:As:=Ar [g_2] (fun d=>(Aej d.1).val) fun r=>([rv En r.1],[rv g_2 r.2])
theorem Bab:pA 215 Avv:=mkF [qA 127 Fa,qA 118 C8] ⟨Ew,Cw,trivial⟩ Tryz.func215 1
def Pk:As:=Ar [g_3] (fun d=>(Aqt d.1).val) (Fo g_1)
theorem Qz:Fq 67 Pk:=mkF [Fz 47 Cp] ⟨Ch,trivial⟩ Tryz.func67 0
def Afo:As:=Ar [g_3,g_3] (fun d=>(Aqu d.1 d.2.1).val) (Fo g_1)
theorem Aln:Fq 244 Afo:=mkF [] trivial Tryz.func244 0
def K4:As:=Ar [En] (fun d=>(Alo d.1).val) (Fo g_1)
theorem Lu:Fq 166 K4:=mkF [Fz 67 Pk,Fz 47 Cp,Fz 244 Afo] ⟨Qz,Ch,Aln,trivial⟩ Tryz.func166 0
def Alp:As:=Ar [g_0,g_0] (fun d=>(Acj d.1 d.2.1).val) (Fo g_0)
theorem Axd:Fq 177 Alp:=mkF [Fz 243 Abf] ⟨Adk,trivial⟩ Tryz.func177 0
def Aek:As:=Ar [g_0] (fun d=>(Ael d.1).val) (Fo g_0)
theorem Aoi:Fq 63 Aek:=mkF [Fz 84 Adn,Fz 177 Alp,Fz 176 Pi] ⟨Afn,Axd,Qx,trivial⟩ Tryz.func63 0
def Aem:As:=Ar [g_3,g_0,g_0,g_3,g_0] (fun d=>(Aen d.1 d.2.1 d.2.2.1 d.2.2.2.1 d.2.2.2.2.1).val) (Fo g_0)
theorem Aoj:Fq 64 Aem:=mkF [Fz 47 Cp,Fz 165 Ls] ⟨Ch,K0,trivial⟩ Tryz.func64 0
def Aok:As:=Ar [g_0,g_0] (fun d=>(Bac d.1 d.2.1).val) (Fo g_0)
theorem Aqv:Fq 163 Aok:=mkF [Fz 243 Abf] ⟨Adk,trivial⟩ Tryz.func163 0
def Axe:As:=Ar [g_0,g_3,g_0,g_0,g_3,g_0] (fun d=>(Axf d.1 d.2.1 d.2.2.1 d.2.2.2.1 d.2.2.2.2.1 d.2.2.2.2.2.1).val) (Fo g_0)
theorem A6y:Fq 169 Axe:=mkF [Fz 63 Aek,Fz 64 Aem,Fz 163 Aok] ⟨Aoi,Aoj,Aqv,trivial⟩ Tryz.func169 0
def Aqw:As:=Ar [En] (fun d=>(Aqx d.1).val) (Fo En)
theorem A14:Fq 218 Aqw:=mkF [] trivial Tryz.func218 0
def Ag5:As:=Ar [g_0,g_3,En] (fun d=>(Xx d.1 d.2.1 d.2.2.1).val) fun r=>([rv En r.1,rv g_1 r.2],[])
theorem Avw:Fq 129 Ag5:=mkF [Fz 166 K4,Fz 169 Axe,Fz 218 Aqw] ⟨Lu,A6y,A14,trivial⟩ Tryz.func129 0
def Er:As:=Ar [g_2,g_6] (fun d=>(Aj0 d.1 d.2.1).val) fun r=>([rv g_3 r.1],[rv g_2 r.2])
theorem Eg:pA 121 Er:=mkF [qA 118 C8] ⟨Cw,trivial⟩ Tryz.func121 1
def A15:As:=Ar [g_0,g_0,g_0] (fun d=>(Alq d.1 d.2.1 d.2.2.1).val) (Fo g_0)
theorem Bgd:Fq 248 A15:=mkF [Fz 84 Adn,Fz 177 Alp] ⟨Afn,Axd,trivial⟩ Tryz.func248 0
def Axg:As:=Ar [g_0] (fun d=>(Ag6 d.1).val) (Fo g_0)
theorem Bex:Fq 247 Axg:=mkF [Fz 176 Pi] ⟨Qx,trivial⟩ Tryz.func247 0
def Bcl:As:=Ar [g_0,g_3] (fun d=>(Axh d.1 d.2.1).val) (Fo g_0)
theorem Bnn:Fq 249 Bcl:=Da [Fz 47 Cp,Fz 176 Pi] ⟨Ch,Qx,trivial⟩ ⟨[vI 1,vS 5 (sO 6000000),vI 6],[],[6000000]⟩ 6000000 [(.exit 0,⟨[vS 5 (sO 6000000)],[],[6000000]⟩)] 5 Q0 Tryz.func249 0
def Axi:As:=Ar [g_0,g_0,g_0,g_3] (fun d=>(Ag7 d.1 d.2.1 d.2.2.1 d.2.2.2.1).val) (Fo g_0)
theorem Bey:Fq 171 Axi:=mkF [Fz 248 A15,Fz 247 Axg,Fz 249 Bcl] ⟨Bgd,Bex,Bnn,trivial⟩ Tryz.func171 0
def Aqy:As:=Ar [] (fun d=>(Aqz).val) (Fo Ma)
theorem A16:Fq 302 Aqy:=Da [] trivial ⟨[vX 0,vX 1,vI 2],[(0,[sI,sW (.sl 3 [.int .i64]) 4000000]),(1,[sI,sW (.sl 3 [.int .i64]) 4000001])],[4000000,4000001]⟩ 4000000 [(.exit 0,⟨[vX 0,vX 1],[(0,[sI,sW (.sl 3 [.int .i64]) 4000000]),(1,[sI,sW (.sl 3 [.int .i64]) 4000001])],[4000000,4000001]⟩)] 3 N7 Tryz.func302 0
def R0:As:=Ar [g_3,g_0] (fun d=>(Ado d.1 d.2.1).val) (Fo Kb)
theorem Ts:Fq 246 R0:=mkF [Fz 47 Cp,Fz 302 Aqy] ⟨Ch,A16,trivial⟩ Tryz.func246 0
def Alr:As:=Ar [g_3,g_0,g_0] (fun d=>(Ux d.1 d.2.1 d.2.2.1).val) (Fo F0)
theorem Axj:Fq 170 Alr:=mkF [Fz 47 Cp,Fz 246 R0] ⟨Ch,Ts,trivial⟩ Tryz.func170 0
def Ag8:As:=Ar [Ev] (fun d=>(Ag9 d.1).val) (Fo H5)
theorem Avx:Fq 172 Ag8:=mkF [] trivial Tryz.func172 0
def Als:As:=Ar [g_0,g_3,Ev,En] (fun d=>(Uy d.1 d.2.1 d.2.2.1 d.2.2.2.1).val) (Fo Iw)
theorem Axk:Fq 60 Als:=mkF [Fz 84 Adn,Fz 47 Cp,Fz 48 Ic,Fz 166 K4,Fz 171 Axi,Fz 170 Alr,Fz 172 Ag8] ⟨Afn,Ch,H7,Lu,Bey,Axj,Avx,trivial⟩ Tryz.func60 0
def Gp:As:=Ar [g_2,g_3] (fun d=>(Aq0 d.1 d.2.1).val) fun r=>([rv g_1 r.1],[rv g_2 r.2])
theorem Gj:pA 32 Gp:=mkF [qA 118 C8] ⟨Cw,trivial⟩ Tryz.func32 1
def A6z:As:=Ar [g_2,g_3] (fun d=>(Aq1 d.1 d.2.1).val) fun r=>([rv g_6 r.1],[rv g_2 r.2])
theorem Bj6:pA 322 A6z:=Da [qA 121 Er,qA 118 C8,qA 32 Gp] ⟨Eg,Cw,Gj,trivial⟩ ⟨[vX 0,vS 5 (sW (.sl 3 [.int .i64]) 5000000),vI 6,vI 7],[(0,[(.sl 5 [.int .u8],(.pin 0)),sI,sI])],[5000000]⟩ 5000000 [(.exit 0,⟨[vX 0,vS 5 (sW (.sl 3 [.int .i64]) 5000000)],[(0,[(.sl 5 [.int .u8],(.pin 0)),sI,sI])],[5000000]⟩)] 4 Xy Tryz.func322 1
def Aq2:As:=Ar [Ma] (fun d=>(A60 d.1).val) (Fo Ma)
theorem A17:Fq 338 Aq2:=mkF [] trivial Tryz.func338 0
def A18:As:=Ar [g_3] (fun d=>(Alt d.1).val) (Fo g_3)
theorem Bge:Fq 339 A18:=mkF [] trivial Tryz.func339 0
def Aq3:As:=Ar [Ma,g_3] (fun d=>(Aq4 d.1 d.2.1).val) (Fo g_1)
theorem A19:Fq 307 Aq3:=mkF [Fz 337 Aw5,Fz 47 Cp,Fz 339 A18,Fz 340 Aw3] ⟨A6s,Ch,Bge,A6r,trivial⟩ Tryz.func307 0
def Aq5:As:=Ar [Ma,g_3] (fun d=>(Aq6 d.1 d.2.1).val) fun r=>([rv Ma r.1,rv g_1 r.2],[])
theorem A2a:Fq 309 Aq5:=Da [Fz 338 Aq2,Fz 307 Aq3] ⟨A17,A19,trivial⟩ ⟨[vI 1,vX 2,vX 4,vX 6,vI 7,vI 8],[(2,[sI,sL]),(4,[sI,sW (.sl 3 [.int .i64]) 7000000]),(6,[sI,sW (.sl 3 [.int .i64]) 7000001])],[7000000,7000001]⟩ 7000000 [(.exit 0,⟨[vI 1,vX 2,vX 4,vX 6],[(2,[sI,sL]),(4,[sI,sW (.sl 3 [.int .i64]) 7000000]),(6,[sI,sW (.sl 3 [.int .i64]) 7000001])],[7000000,7000001]⟩)] 6 N8 Tryz.func309 0
def Bcm:As:=Ar [g_6] (fun d=>(Axl d.1).val) (Fo Ma)
theorem Bno:Fq 321 Bcm:=Da [Fz 302 Aqy,Fz 309 Aq5] ⟨A16,A2a,trivial⟩ ⟨[vS 0 sL,vX 2,vX 3,vI 4],[(2,[sI,sW (.sl 3 [.int .i64]) 4000000]),(3,[sI,sW (.sl 3 [.int .i64]) 4000001])],[4000000,4000001]⟩ 4000000 [(.exit 0,⟨[vX 2,vX 3],[(2,[sI,sW (.sl 3 [.int .i64]) 4000000]),(3,[sI,sW (.sl 3 [.int .i64]) 4000001])],[4000000,4000001]⟩)] 3 Ack Tryz.func321 0
def Afp:As:=Ar [g_2] (fun d=>(Aq7 d.1).val) fun r=>([rv Ma r.1],[rv g_2 r.2])
theorem Alu:pA 279 Afp:=mkF [qA 322 A6z,Fz 321 Bcm] ⟨Bj6,Bno,trivial⟩ Tryz.func279 1
def Alv:As:=Ar [g_2,g_3] (fun d=>(Alw d.1 d.2.1).val) fun r=>([rv F0 r.1],[rv g_2 r.2])
theorem Axm:pA 216 Alv:=mkF [qA 127 Fa,Fz 170 Alr,qA 121 Er,qA 32 Gp,qA 279 Afp,Fz 176 Pi,Fz 246 R0] ⟨Ew,Axj,Eg,Gj,Alu,Qx,Ts,trivial⟩ Tryz.func216 1
def Uz:As:=Ar [Btc] (fun d=>(Alx d.1).val) (Fo Btc)
theorem Xz:Fq 259 Uz:=mkF [] trivial Tryz.func259 0
def U0:As:=Ar [H5] (fun d=>(Aly d.1).val) (Fo H5)
theorem X7:Fq 254 U0:=Da [Fz 259 Uz] ⟨Xz,trivial⟩ ⟨[vX 1,vX 2,vX 3,vI 4],[(1,[sI,sI,sR (.sl 228 h_4)]),(2,[sI,sI,sW (.sl 228 h_4) 4000000]),(3,[sI,sI,sW (.sl 228 h_4) 4000001])],[4000000,4000001]⟩ 4000000 [(.exit 0,⟨[vX 2,vX 3],[(2,[sI,sI,sW (.sl 228 h_4) 4000000]),(3,[sI,sI,sW (.sl 228 h_4) 4000001])],[4000000,4000001]⟩)] 3 Mf Tryz.func254 0
def Axn:As:=Ar [H5,g_3] (fun d=>(Aha d.1 d.2.1).val) (Fo H5)
theorem Bez:Fq 261 Axn:=Da [Fz 252 Us,Fz 47 Cp,Fz 254 U0,Fz 259 Uz] ⟨Xu,Ch,X7,Xz,trivial⟩ ⟨[vI 1,vX 2,vX 4,vX 5,vI 6],[(2,[sI,sI,sR (.sl 228 h_4)]),(4,[sI,sI,sW (.sl 228 h_4) 6000000]),(5,[sI,sI,sW (.sl 228 h_4) 6000001])],[6000000,6000001]⟩ 6000000 [(.exit 0,⟨[vX 4,vX 5],[(4,[sI,sI,sW (.sl 228 h_4) 6000000]),(5,[sI,sI,sW (.sl 228 h_4) 6000001])],[6000000,6000001]⟩)] 5 Le Tryz.func261 0
def Axo:As:=Ar [H5,g_3,Ev,g_0] (fun d=>(Axp d.1 d.2.1 d.2.2.1 d.2.2.2.1).val) fun r=>([rv H5 r.1,rv g_1 r.2],[])
theorem A61:Fq 185 Axo:=Da [Fz 252 Us,Fz 47 Cp,Fz 48 Ic,Fz 254 U0,Fz 261 Axn] ⟨Xu,Ch,H7,X7,Bez,trivial⟩ ⟨[vI 1,vS 3 sB,vX 4,vX 6,vX 8,vX 10,vI 11],[(4,[sI,sI,sR (.sl 228 h_4)]),(6,[sI,sI]),(8,[sI,sI,sW (.sl 228 h_4) 6000000]),(10,[sI,sI,sW (.sl 228 h_4) 6000001])],[6000000,6000001]⟩ 6000000 [(.ret,⟨[vX 8,(9,.v false [(.bool,.nil)])],[(8,[sI,sI,sW (.sl 228 h_4) 6000000])],[6000000]⟩),(.exit 0,⟨[vI 1,vS 3 sB,vX 4,vX 6,vX 8,vX 10],[(4,[sI,sI,sR (.sl 228 h_4)]),(6,[sI,sI]),(8,[sI,sI,sW (.sl 228 h_4) 6000000]),(10,[sI,sI,sW (.sl 228 h_4) 6000001])],[6000000,6000001]⟩)] 5 Q1 Tryz.func185 0
def Alz:As:=Ar [g_2] (fun d=>(Al0 d.1).val) fun r=>([rv H5 r.1],[rv g_2 r.2])
theorem Axq:pA 217 Alz:=Da [qA 118 C8,Fz 126 Rv,Fz 172 Ag8,qA 127 Fa,Fz 185 Axo] ⟨Cw,Rw,Avx,Ew,A61,trivial⟩ ⟨[vX 0,vX 2,vX 3,vI 4,vI 5],[(0,[(.sl 5 [.int .u8],(.pin 0)),sI,sI]),(2,[sI,sI,sW (.sl 228 h_4) 5000000]),(3,[sI,sI,sW (.sl 228 h_4) 5000001])],[5000000,5000001]⟩ 5000000 [(.exit 0,⟨[vX 0,vX 2,vX 3],[(0,[(.sl 5 [.int .u8],(.pin 0)),sI,sI]),(2,[sI,sI,sW (.sl 228 h_4) 5000000]),(3,[sI,sI,sW (.sl 228 h_4) 5000001])],[5000000,5000001]⟩)] 4 Aeo Tryz.func217 1
def U1:As:=Ar [g_2] (fun d=>(Al1 d.1).val) fun r=>([rv Iw r.1],[rv g_2 r.2])
theorem X8:pB 125 U1:=mkF [qA 127 Fa,qA 118 C8,qA 215 Avv,Fz 129 Ag5,qA 121 Er,Fz 126 Rv,Fz 60 Als,qA 32 Gp,qA 216 Alv,qA 217 Alz] ⟨Ew,Cw,Bab,Avw,Eg,Rw,Axk,Gj,Axm,Axq,trivial⟩ Tryz.func125 1
def X9:As:=Ar [Kb] (fun d=>(Aq8 d.1).val) (Fo Kb)
theorem Acl:Fq 305 X9:=mkF [Fz 338 Aq2] ⟨A17,trivial⟩ Tryz.func305 0
def Bcn:As:=Ar [Kb,g_1] (fun d=>(Axr d.1 d.2.1).val) (Fo Kb)
theorem Bnp:Fq 306 Bcn:=mkF [Fz 305 X9] ⟨Acl,trivial⟩ Tryz.func306 0
def Nr:As:=Ar [F0] (fun d=>(Al2 d.1).val) (Fo F0)
theorem N9:Fq 253 Nr:=mkF [Fz 305 X9,Fz 306 Bcn] ⟨Acl,Bnp,trivial⟩ Tryz.func253 0
def Q2:As:=Ar [Iw] (fun d=>(Al3 d.1).val) (Fo Iw)
theorem R7:Fq 175 Q2:=mkF [Fz 253 Nr,Fz 254 U0] ⟨N9,X7,trivial⟩ Tryz.func175 0
def Al4:As:=Ar [g_9] (fun d=>(Al5 d.1).val) (Fo g_9)
theorem Axs:Fq 157 Al4:=Da [Fz 175 Q2] ⟨R7,trivial⟩ ⟨[vX 1,vX 2,vX 3,vI 4],[(1,[sI,sR (.sl 113 Dm)]),(2,[sI,sW (.sl 113 Dm) 4000000]),(3,[sI,sW (.sl 113 Dm) 4000001])],[4000000,4000001]⟩ 4000000 [(.exit 0,⟨[vX 2,vX 3],[(2,[sI,sW (.sl 113 Dm) 4000000]),(3,[sI,sW (.sl 113 Dm) 4000001])],[4000000,4000001]⟩)] 3 Mg Tryz.func157 0
def Acm:As:=Ar [g_9,Iw] (fun d=>(Al6 d.1 d.2.1).val) fun r=>([rv g_9 r.1,rv g_3 r.2],[])
theorem Ahb:Fq 61 Acm:=mkF [Fz 157 Al4,Fz 82 Axa,Fz 173 Tq,Fz 59 Afm,Fz 174 A35,Fz 175 Q2] ⟨Axs,A6v,Uv,Alm,Bck,R7,trivial⟩ Tryz.func61 0
def Ahc:As:=Ar [Iw] (fun d=>(A4a d.1).val) (Fo Iw)
theorem Aj1:Fq 124 Ahc:=mkF [Fz 173 Tq,Fz 175 Q2] ⟨Uv,R7,trivial⟩ Tryz.func124 0
def Al7:As:=Ar [g_2] (fun d=>(Al8 d.1).val) fun r=>([rv g_9 r.1],[rv g_2 r.2])
theorem Axt:pA 210 Al7:=Da [qA 118 C8,Fz 276 Aqk,qB 125 U1,Fz 61 Acm,qA 32 Gp,Fz 124 Ahc] ⟨Cw,A11,X8,Ahb,Gj,Aj1,trivial⟩ ⟨[vX 0,vX 2,vX 3,vI 4],[(0,[(.sl 5 [.int .u8],(.pin 0)),sI,sI]),(2,[sI,sW (.sl 113 Dm) 4000000]),(3,[sI,sW (.sl 113 Dm) 4000001])],[4000000,4000001]⟩ 4000000 [(.exit 0,⟨[vX 0,vX 2,vX 3],[(0,[(.sl 5 [.int .u8],(.pin 0)),sI,sI]),(2,[sI,sW (.sl 113 Dm) 4000000]),(3,[sI,sW (.sl 113 Dm) 4000001])],[4000000,4000001]⟩)] 3 Vv Tryz.func210 1
def Aj2:As:=Ar [Nn,Ev] (fun d=>(Axu d.1 d.2.1).val) (Fo g_3)
theorem Aq9:Fq 158 Aj2:=Da [] trivial ⟨[vS 0 (sR (.sl 175 h_2)),vX 3,vI 5],[(3,[sI,sI])],[]⟩ 3000000 [(.ret,⟨[vI 4],[],[]⟩),(.exit 0,⟨[],[],[]⟩)] 2 U2 Tryz.func158 0
def A4b:As:=Ar [Nn,Ev,g_3] (fun d=>(Ara d.1 d.2.1 d.2.2.1).val) (Fo Nn)
theorem Bco:Fq 49 A4b:=mkF [Fz 83 Qi,Fz 48 Ic,Fz 47 Cp,Fz 158 Aj2] ⟨Tr,H7,Ch,Aq9,trivial⟩ Tryz.func49 0
def Al9:As:=Ar [Nn,Ev] (fun d=>(U3 d.1 d.2.1).val) (Fo g_3)
theorem Axv:Fq 161 Al9:=mkF [Fz 158 Aj2,Fz 83 Qi] ⟨Aq9,Tr,trivial⟩ Tryz.func161 0
def Axw:As:=Ar [Nn,Ev,g_3] (fun d=>(Aj3 d.1 d.2.1 d.2.2.1).val) fun r=>([rv Nn r.1,rv g_1 r.2],[])
theorem A62:Fq 187 Axw:=mkF [Fz 158 Aj2,Fz 83 Qi,Fz 161 Al9,Fz 47 Cp] ⟨Aq9,Tr,Axv,Ch,trivial⟩ Tryz.func187 0
def Ama:As:=Ar [g_2,g_3] (fun d=>(Amb d.1 d.2.1).val) fun r=>([rv Nn r.1],[rv g_2 r.2])
theorem Axx:pA 211 Ama:=Da [qA 118 C8,Fz 126 Rv,qA 121 Er,Fz 49 A4b,Fz 187 Axw] ⟨Cw,Rw,Eg,Bco,A62,trivial⟩ ⟨[vX 0,vS 5 (sW (.sl 175 h_2) 4000000),vI 6],[(0,[(.sl 5 [.int .u8],(.pin 0)),sI,sI])],[4000000]⟩ 4000000 [(.exit 0,⟨[vX 0,vS 5 (sW (.sl 175 h_2) 4000000)],[(0,[(.sl 5 [.int .u8],(.pin 0)),sI,sI])],[4000000]⟩)] 3 Vw Tryz.func211 1
def A2b:As:=Ar [g_2] (fun d=>(Amc d.1).val) fun r=>([rv Hk r.1],[rv g_2 r.2])
theorem Bgf:pA 117 A2b:=Da [qA 209 A1x,qA 127 Fa,qA 118 C8,Fz 208 Avu,qA 210 Al7,Fz 61 Acm,qA 211 Ama] ⟨Bf8,Ew,Cw,Baa,Axt,Ahb,Axx,trivial⟩ ⟨[vX 0,vX 2,vX 3,vX 4,vI 5],[(0,[(.sl 5 [.int .u8],(.pin 0)),sI,sI]),(2,[sW (.sl 22 [.sl 5 [.int .u8]]) 5000000,sO 5000001,sO 5000002,sI,sI,sW (.sl 113 Dm) 5000003,sW (.sl 175 h_2) 5000004]),(3,[sW (.sl 22 [.sl 5 [.int .u8]]) 5000005,sO 5000006,sO 5000007,sI,sI,sW (.sl 113 Dm) 5000008,sW (.sl 175 h_2) 5000009]),(4,[sI,sW (.sl 113 Dm) 5000010])],[5000000,5000001,5000002,5000003,5000004,5000005,5000006,5000007,5000008,5000009,5000010]⟩ 5000000 [(.exit 0,⟨[vX 0,vX 2,vX 3],[(0,[(.sl 5 [.int .u8],(.pin 0)),sI,sI]),(2,[sW (.sl 22 [.sl 5 [.int .u8]]) 5000000,sO 5000001,sO 5000002,sI,sI,sW (.sl 113 Dm) 5000003,sW (.sl 175 h_2) 5000004]),(3,[sW (.sl 22 [.sl 5 [.int .u8]]) 5000005,sO 5000006,sO 5000007,sI,sI,sW (.sl 113 Dm) 5000008,sW (.sl 175 h_2) 5000009])],[5000000,5000001,5000002,5000003,5000004,5000005,5000006,5000007,5000008,5000009]⟩)] 4 Vx Tryz.func117 1
def A63:As:=Ar [g_2,g_4,g_4] (fun d=>(Arb d.1 d.2.1 d.2.2.1).val) fun r=>([rv g_4 r.1],[rv g_2 r.2])
theorem Bj7:pB 119 A63:=mkF [qA 32 Gp] ⟨Gj,trivial⟩ Tryz.func119 1
def A64:As:=Ar [g_2] (fun d=>(Arc d.1).val) fun r=>([rv g_8 r.1],[rv g_2 r.2])
theorem Bj8:pA 120 A64:=mkF [qA 127 Fa,Fz 213 Aqi,qA 32 Gp,qA 121 Er] ⟨Ew,A10,Gj,Eg,trivial⟩ Tryz.func120 1
def Bgg:As:=Ar [g_2] (fun d=>(A4c d.1).val) fun r=>([rv Kb r.1],[rv g_2 r.2])
theorem Bqj:pA 350 Bgg:=mkF [qA 121 Er,qA 127 Fa,Fz 246 R0,qA 32 Gp,qA 279 Afp] ⟨Eg,Ew,Ts,Gj,Alu,trivial⟩ Tryz.func350 1
def Bcp:As:=Ar [g_2] (fun d=>(Axy d.1).val) fun r=>([rv Ma r.1],[rv g_2 r.2])
theorem Bnq:pA 351 Bcp:=mkF [qA 279 Afp,qA 118 C8,qA 121 Er] ⟨Alu,Cw,Eg,trivial⟩ Tryz.func351 1
def Bcq:As:=Ar [g_2] (fun d=>(Axz d.1).val) fun r=>([rv Kb r.1],[rv g_2 r.2])
theorem Bnr:pA 320 Bcq:=mkF [qA 350 Bgg,qA 118 C8,qA 121 Er,qA 127 Fa,qA 351 Bcp] ⟨Bqj,Cw,Eg,Ew,Bnq,trivial⟩ Tryz.func320 1
def A65:As:=Ar [g_2] (fun d=>(Ard d.1).val) fun r=>([rv F0 r.1],[rv g_2 r.2])
theorem Bj9:pA 277 A65:=mkF [qA 118 C8,qA 216 Alv,qA 121 Er,qA 127 Fa,qA 320 Bcq] ⟨Cw,Axm,Eg,Ew,Bnr,trivial⟩ Tryz.func277 1
def A66:As:=Ar [g_2] (fun d=>(Are d.1).val) fun r=>([rv Ev r.1],[rv g_2 r.2])
theorem Bka:pA 132 A66:=mkF [qA 32 Gp,qA 118 C8,qA 212 Xp,Fz 126 Rv] ⟨Gj,Cw,Ach,Rw,trivial⟩ Tryz.func132 1
def Ax0:As:=Ar [g_2] (fun d=>(Ax1 d.1).val) fun r=>([rv g_3 r.1],[rv g_2 r.2])
theorem A67:pA 33 Ax0:=mkF [qA 121 Er] ⟨Eg,trivial⟩ Tryz.func33 1
def Adp:As:=Ar [g_2] (fun d=>(Ax2 d.1).val) fun r=>([rv Ev r.1],[rv g_2 r.2])
theorem Afq:pA 34 Adp:=mkF [qA 132 A66,qA 118 C8,qA 33 Ax0,qA 121 Er] ⟨Bka,Cw,A67,Eg,trivial⟩ Tryz.func34 1
def A68:As:=Ar [g_2] (fun d=>(Arf d.1).val) fun r=>([rv H5 r.1],[rv g_2 r.2])
theorem Bkb:pA 278 A68:=mkF [qA 217 Alz,qA 32 Gp,qA 118 C8,qA 34 Adp,qA 127 Fa,qA 121 Er] ⟨Axq,Gj,Cw,Afq,Ew,Eg,trivial⟩ Tryz.func278 1
def A69:As:=Ar [g_2] (fun d=>(Arg d.1).val) fun r=>([rv Iw r.1],[rv g_2 r.2])
theorem Bkc:pB 214 A69:=mkF [qB 125 U1,qA 118 C8,qA 121 Er,qA 127 Fa,qA 277 A65,qA 278 A68,Fz 124 Ahc] ⟨X8,Cw,Eg,Ew,Bj9,Bkb,Aj1,trivial⟩ Tryz.func214 1
def A7a:As:=Ar [g_2] (fun d=>(Afr d.1).val) fun r=>([rv g_9 r.1],[rv g_2 r.2])
def Afs:Fns:=[qA 210 Al7,qA 118 C8,qA 121 Er,qB 214 A69,qB 125 U1,Fz 124 Ahc,qA 127 Fa]
theorem A7b:CfgOk Tryz.prog (D7 Afs):=Gu Ms Ji (show Kn Tryz.prog Afs from⟨Axt,Cw,Eg,Bkc,X8,Aj1,Ew,trivial⟩)
def Avy:Sk:=⟨[vX 0,vX 2,vX 3,vX 4,vI 5],[(0,[(.sl 5 [.int .u8],(.pin 0)),sI,sI]),(2,[sI,sW (.sl 113 Dm) 14000000]),(3,[sI,(.sl 113 Dm,(.row 14000001))]),(4,[sI,(.sl 5 [.int .u8],.rd),(.sl 5 [.int .u8],.rd),sI,(.sl 5 [.int .u8],.rd),sI,(.sl 5 [.int .u8],.rd),sI,sI,(.sl 3 [.int .i64],.rd),sI,(.sl 5 [.int .u8],.rd),sI,sI,(.sl 3 [.int .i64],.rd),(.bool,.nil),sI,(.sl 5 [.int .u8],.rd),sI,sI,(.sl 228 h_4,.rd),sI,sI,(.bool,.nil)])],[14000000,14000001]⟩
def Avz:List (Ex×Sk):=[(.exit 1,⟨[vX 0,vX 2,vX 3],[(0,[(.sl 5 [.int .u8],(.pin 0)),sI,sI]),(2,[sI,sW (.sl 113 Dm) 14000000]),(3,[sI,(.sl 113 Dm,(.row 14000001))])],[14000000,14000001]⟩)]
def Arh:G7:=fun i st=>cond (Nat.beq i 13) (lam Avy 14000000 Avz Vy st) <| .fail
theorem Bad (cx:Cx) (hp:cx.pin.length<=1):Ek Tryz.prog cx Tryz.f122.ntmps Arh (Bf Tryz.f122 0):=Fs A7b hp (Ds (by kernel_rfl:B9 (Bf Tryz.f122 0)=[]) trivial) (by kernel_rfl) (fun d=>(by kernel_rfl:bod (D7 Afs) 1 Tryz.f122.ntmps Arh (Bf Tryz.f122 0) Avy 14000000 Avz d=Vy d))
theorem Bkd:pB 122 A7a:=Ny A7b Tryz.func122 (by kernel_rfl) (by kernel_rfl) (fun cx b hp hb=>Ds (by kernel_rfl:B9 (Tryz.f122.body.getD .skip)=[Bf Tryz.f122 0]) ⟨Bad cx hp,trivial⟩ b hb) (fun d=>(by kernel_rfl:Ia (D7 Afs) 1 Arh Tryz.f122 (.box [3] true false) (mkA [g_2] d)=(Afr d.1).run fun r=>some ([rv g_9 r.1],[rv g_2 r.2])))
def A7c:As:=Ar [g_2] (fun d=>(Ari d.1).val) fun r=>([rv Nn r.1],[rv g_2 r.2])
theorem Bke:pA 123 A7c:=mkF [qA 211 Ama,qA 118 C8,qA 34 Adp,qA 121 Er] ⟨Axx,Cw,Afq,Eg,trivial⟩ Tryz.func123 1
def A7d:As:=Ar [g_2] (fun d=>(Arj d.1).val) fun r=>([rv Hk r.1],[rv g_2 r.2])
theorem Bkf:pB 30 A7d:=mkF [qA 117 A2b,qA 118 C8,qB 119 A63,qA 120 A64,qA 121 Er,qB 122 A7a,qA 123 A7c,qB 125 U1,Fz 124 Ahc] ⟨Bgf,Cw,Bj7,Bj8,Eg,Bkd,Bke,X8,Aj1,trivial⟩ Tryz.func30 1
def Za:As:=Ar [En] (fun d=>(Ahd d.1).val) (Fo g_0)
theorem Aep:Fq 128 Za:=Da [Fz 166 K4,Fz 165 Ls] ⟨Lu,K0,trivial⟩ ⟨[vS 3 (sO 11000000),vI 4],[],[11000000]⟩ 11000000 [(.exit 1,⟨[vS 3 (sO 11000000)],[],[11000000]⟩)] 10 J1 Tryz.func128 0
def A2c:As:=Ar [g_0,Ev] (fun d=>(Amd d.1 d.2.1).val) (Fo g_0)
theorem Bgh:Fq 164 A2c:=mkF [Fz 48 Ic,Fz 165 Ls] ⟨H7,K0,trivial⟩ Tryz.func164 0
def Ahe:As:=Ar [Ev,g_3,g_0,g_0,g_3] (fun d=>(Zb d.1 d.2.1 d.2.2.1 d.2.2.2.1 d.2.2.2.2.1).val) (Fo g_0)
theorem Av0:Fq 56 Ahe:=mkF [Fz 48 Ic,Fz 47 Cp,Fz 164 A2c,Fz 165 Ls] ⟨H7,Ch,Bgh,K0,trivial⟩ Tryz.func56 0
def Ark:As:=Ar [g_8,Ev,g_3,g_0,g_0,g_3] (fun d=>(Arl d.1 d.2.1 d.2.2.1 d.2.2.2.1 d.2.2.2.2.1 d.2.2.2.2.2.1).val) (Fo g_0)
theorem Ax3:Fq 53 Ark:=mkF [Fz 56 Ahe,Fz 80 Aju,Fz 163 Aok] ⟨Av0,Aqm,Aqv,trivial⟩ Tryz.func53 0
def Arm:As:=Ar [g_2,g_0] (fun d=>(Arn d.1 d.2.1).val) fun r=>([rv g_0 r.1],[rv g_2 r.2])
theorem A2d:pA 130 Arm:=mkF [qA 118 C8,qA 212 Xp] ⟨Cw,Ach,trivial⟩ Tryz.func130 1
def A7e:As:=Ar [g_2] (fun d=>(Aro d.1).val) fun r=>([rv g_3 r.1,rv g_0 r.2.1],[rv g_2 r.2.2])
theorem Bkg:pA 280 A7e:=mkF [qA 118 C8,qA 127 Fa,qA 121 Er] ⟨Cw,Ew,Eg,trivial⟩ Tryz.func280 1
def Zc:As:=Ar [g_3,g_0,g_3,g_3] (fun d=>(Arp d.1 d.2.1 d.2.2.1 d.2.2.2.1).val) (Fo g_0)
theorem Acn:Fq 257 Zc:=mkF [Fz 47 Cp,Fz 165 Ls] ⟨Ch,K0,trivial⟩ Tryz.func257 0
def A2e:As:=Ar [g_0,g_0,g_3] (fun d=>(Ame d.1 d.2.1 d.2.2.1).val) (Fo g_0)
theorem Bgi:Fq 352 A2e:=mkF [Fz 47 Cp,Fz 165 Ls,Fz 243 Abf] ⟨Ch,K0,Adk,trivial⟩ Tryz.func352 0
def A7f:As:=Ar [g_0,g_0,g_3] (fun d=>(Arq d.1 d.2.1 d.2.2.1).val) (Fo g_0)
theorem Bkh:Fq 323 A7f:=Da [Fz 47 Cp,Fz 352 A2e] ⟨Ch,Bgi,trivial⟩ ⟨[vS 0 sB,vS 1 sB,vI 2,vS 7 (sO 6000000),vI 8],[],[6000000]⟩ 6000000 [(.exit 0,⟨[vI 2,vS 7 (sO 6000000)],[],[6000000]⟩)] 5 Oa Tryz.func323 0
def Bae:As:=Ar [g_0,g_0,g_0] (fun d=>(Baf d.1 d.2.1 d.2.2.1).val) (Fo g_0)
theorem Bgj:Fq 282 Bae:=Da [Fz 323 A7f] ⟨Bkh,trivial⟩ ⟨[vS 2 sB,vS 7 (sO 7000000),vS 8 (sO 7000001),vI 9],[],[7000000,7000001]⟩ 7000000 [(.exit 0,⟨[vS 7 (sO 7000000)],[],[7000000]⟩)] 6 W5 Tryz.func282 0
def Ob:As:=Ar [g_3,En] (fun d=>(Ahf d.1 d.2.1).val) (Fo g_0)
theorem Ql:Fq 182 Ob:=mkF [Fz 47 Cp,Fz 166 K4,Fz 67 Pk,Fz 257 Zc] ⟨Ch,Lu,Qz,Acn,trivial⟩ Tryz.func182 0
def Arr:As:=Ar [g_0,g_3,g_0,g_3,g_3,g_3,g_0] (fun d=>(Ars d.1 d.2.1 d.2.2.1 d.2.2.2.1 d.2.2.2.2.1 d.2.2.2.2.2.1 d.2.2.2.2.2.2.1).val) fun r=>([rv En r.1,rv g_1 r.2],[])
def Art:Fns:=[Fz 257 Zc,Fz 67 Pk,Fz 244 Afo,Fz 282 Bae,Fz 182 Ob,Fz 163 Aok]
theorem Bgk:CfgOk Tryz.prog (D7 Art):=Gu Ms Ji (show Kn Tryz.prog Art from⟨Acn,Qz,Aln,Bgj,Ql,Aqv,trivial⟩)
def A7g:Sk:=⟨[vS 0 sB,vI 1,vX 14,vX 17,vI 18],[(14,[sI,sI,sO 7000000,sO 7000001,sI,sO 7000002,sO 7000003,sI,sI,sO 7000004,sO 7000005]),(17,[sI,sI,sO 7000006,sO 7000007,sI,sO 7000008,sO 7000009,sI,sI,sO 7000010,sO 7000011])],[7000000,7000001,7000002,7000003,7000004,7000005,7000006,7000007,7000008,7000009,7000010,7000011]⟩
def A7h:List (Ex×Sk):=[(.exit 0,⟨[vS 0 sB,vI 1,vX 14,vX 17],[(14,[sI,sI,sO 7000000,sO 7000001,sI,sO 7000002,sO 7000003,sI,sI,sO 7000004,sO 7000005]),(17,[sI,sI,sO 7000006,sO 7000007,sI,sO 7000008,sO 7000009,sI,sI,sO 7000010,sO 7000011])],[7000000,7000001,7000002,7000003,7000004,7000005,7000006,7000007,7000008,7000009,7000010,7000011]⟩)]
def A4d:G7:=fun i st=>cond (Nat.beq i 6) (lam A7g 7000000 A7h Pm st) <| .fail
theorem Bki (cx:Cx) (hp:cx.pin.length<=0):Ek Tryz.prog cx Tryz.f220.ntmps A4d (Bf Tryz.f220 0):=Fs Bgk hp (Ds (by kernel_rfl:B9 (Bf Tryz.f220 0)=[]) trivial) (by kernel_rfl) (fun d=>(by kernel_rfl:bod (D7 Art) 0 Tryz.f220.ntmps A4d (Bf Tryz.f220 0) A7g 7000000 A7h d=Pm d))
theorem Ax4:Fq 220 Arr:=Ny Bgk Tryz.func220 (by kernel_rfl) (by kernel_rfl) (fun cx b hp hb=>Ds (by kernel_rfl:B9 (Tryz.f220.body.getD .skip)=[Bf Tryz.f220 0]) ⟨Bki cx hp,trivial⟩ b hb) (fun d=>(by kernel_rfl:Ia (D7 Art) 0 A4d Tryz.f220 .plain (mkA [g_0,g_3,g_0,g_3,g_3,g_3,g_0] d)=(Ars d.1 d.2.1 d.2.2.1 d.2.2.2.1 d.2.2.2.2.1 d.2.2.2.2.2.1 d.2.2.2.2.2.2.1).run fun r=>some ([rv En r.1,rv g_1 r.2],[])))
def A7i:As:=Ar [g_2,En] (fun d=>(Aru d.1 d.2.1).val) fun r=>([rv En r.1],[rv g_2 r.2])
theorem Bkj:pA 281 A7i:=mkF [Fz 218 Aqw,qA 118 C8,qA 121 Er,qA 130 Arm] ⟨A14,Cw,Eg,A2d,trivial⟩ Tryz.func281 1
def Ax5:As:=Ar [g_2,F0] (fun d=>(Ahg d.1 d.2.1).val) fun r=>([rv En r.1],[rv g_2 r.2])
theorem Be0:pA 219 Ax5:=mkF [qA 280 A7e,qA 32 Gp,Fz 246 R0,qA 121 Er,Fz 220 Arr,qA 281 A7i] ⟨Bkg,Gj,Ts,Eg,Ax4,Bkj,trivial⟩ Tryz.func219 1
def Vz:As:=Ar [g_3] (fun d=>(Aeq d.1).val) (Fo g_0)
theorem Abg:Fq 221 Vz:=mkF [Fz 47 Cp,Fz 165 Ls] ⟨Ch,K0,trivial⟩ Tryz.func221 0
def Ax6:As:=Ar [g_2,Iw] (fun d=>(Ahh d.1 d.2.1).val) fun r=>([rv Ev r.1,rv En r.2.1],[rv g_2 r.2.2])
theorem Be1:pB 131 Ax6:=mkF [qA 32 Gp,qA 118 C8,Fz 126 Rv,qA 219 Ax5,Fz 220 Arr,Fz 221 Vz,qA 34 Adp] ⟨Gj,Cw,Rw,Be0,Ax4,Abg,Afq,trivial⟩ Tryz.func131 1
def Ax7:As:=Ar [g_2,Hk] (fun d=>(Ahi d.1 d.2.1).val) fun r=>([rv g_3 r.1,rv Ev r.2.1,rv g_0 r.2.2.1],[rv g_2 r.2.2.2])
theorem Be2:pA 31 Ax7:=mkF [qA 118 C8,Fz 126 Rv,qA 121 Er,qA 127 Fa,Fz 128 Za,qA 32 Gp,Fz 53 Ark,Fz 129 Ag5,qA 130 Arm,qB 131 Ax6] ⟨Cw,Rw,Eg,Ew,Aep,Gj,Ax3,Avw,A2d,Be1,trivial⟩ Tryz.func31 1
def Adq:As:=Ar [g_0] (fun d=>(Mu d.1).val) fun r=>([rv Hk r.1,rv g_3 r.2.1,rv Ev r.2.2.1,rv g_0 r.2.2.2],[])
theorem Abc:Fn Tryz.prog 6 .view Adq:=mkF [(29,.ret,Bcd),qB 30 A7d,qA 31 Ax7,qA 32 Gp,qA 33 Ax0,qA 34 Adp] ⟨Bnk,Bkf,Be2,Gj,A67,Afq,trivial⟩ Tryz.func6 0
def Dc:As:=Ar [g_0] (fun d=>(Ax8 d.1).val) (Fo g_0)
theorem C0:Fq 134 Dc:=mkF [] trivial Tryz.func134 0
def Ax9:As:=Ar [g_4] (fun d=>(Ahj d.1).val) (Fo g_4)
theorem Be3:Fq 133 Ax9:=Da [Fz 134 Dc] ⟨C0,trivial⟩ ⟨[vS 3 (sW (.sl 22 [.sl 5 [.int .u8]]) 4000000),vS 7 (sR (.sl 22 [.sl 5 [.int .u8]])),vI 8,vI 9],[],[4000000]⟩ 4000000 [(.exit 0,⟨[vS 3 (sW (.sl 22 [.sl 5 [.int .u8]]) 4000000)],[],[4000000]⟩)] 3 Lf Tryz.func133 0
def Amf:As:=Ar [Ma] (fun d=>(Amg d.1).val) (Fo Ma)
theorem Aya:Fq 353 Amf:=mkF [] trivial Tryz.func353 0
def Aft:As:=Ar [Kb] (fun d=>(Arv d.1).val) (Fo Kb)
theorem Amh:Fq 324 Aft:=mkF [Fz 134 Dc,Fz 353 Amf] ⟨C0,Aya,trivial⟩ Tryz.func324 0
def Lv:As:=Ar [F0] (fun d=>(Ahk d.1).val) (Fo F0)
theorem Mh:Fq 283 Lv:=mkF [Fz 134 Dc,Fz 324 Aft] ⟨C0,Amh,trivial⟩ Tryz.func283 0
def Qm:As:=Ar [H5] (fun d=>(Aer d.1).val) (Fo H5)
theorem Tt:Fq 284 Qm:=Da [Fz 134 Dc] ⟨C0,trivial⟩ ⟨[vX 2,vX 3,vS 10 (sR (.sl 228 h_4)),vI 11,vI 12],[(2,[sI,sI,sW (.sl 228 h_4) 4000000]),(3,[sI,sI,sW (.sl 228 h_4) 4000001])],[4000000,4000001]⟩ 4000000 [(.exit 0,⟨[vX 2,vX 3],[(2,[sI,sI,sW (.sl 228 h_4) 4000000]),(3,[sI,sI,sW (.sl 228 h_4) 4000001])],[4000000,4000001]⟩)] 3 J2 Tryz.func284 0
def Oc:As:=Ar [Iw] (fun d=>(Ahl d.1).val) (Fo Iw)
theorem Qn:Fq 222 Oc:=mkF [Fz 134 Dc,Fz 283 Lv,Fz 284 Qm] ⟨C0,Mh,Tt,trivial⟩ Tryz.func222 0
def Aco:As:=Ar [g_9] (fun d=>(Ami d.1).val) (Fo g_9)
theorem Ahm:Fq 135 Aco:=Da [Fz 222 Oc] ⟨Qn,trivial⟩ ⟨[vX 2,vX 3,vS 10 (sR (.sl 113 Dm)),vI 11,vI 12],[(2,[sI,sW (.sl 113 Dm) 4000000]),(3,[sI,sW (.sl 113 Dm) 4000001])],[4000000,4000001]⟩ 4000000 [(.exit 0,⟨[vX 2,vX 3],[(2,[sI,sW (.sl 113 Dm) 4000000]),(3,[sI,sW (.sl 113 Dm) 4000001])],[4000000,4000001]⟩)] 3 Mi Tryz.func135 0
def Rf:As:=Ar [Nn] (fun d=>(Zd d.1).val) (Fo Nn)
theorem We:Fq 136 Rf:=mkF [] trivial Tryz.func136 0
def Aol:As:=Ar [Hk] (fun d=>(Abh d.1).val) (Fo Hk)
theorem A7j:Fq 35 Aol:=mkF [Fz 133 Ax9,Fz 134 Dc,Fz 135 Aco,Fz 136 Rf] ⟨Be3,C0,Ahm,We,trivial⟩ Tryz.func35 0
def Cd:As:=Ar [g_3,g_3,g_3] (fun d=>(Arw d.1 d.2.1 d.2.2.1).val) (Fo g_1)
theorem B5:Fq 36 Cd:=mkF [] trivial Tryz.func36 0
def Aj4:As:=Ar [g_8] (fun d=>(Bcr d.1).val) (Fo g_1)
theorem Arx:Fq 75 Aj4:=mkF [] trivial Tryz.func75 0
def Ary:As:=Ar [g_5] (fun d=>(Arz d.1).val) (Fo g_1)
theorem A2f:Fq 76 Ary:=mkF [Fz 36 Cd] ⟨B5,trivial⟩ Tryz.func76 0
def A4e:As:=Ar [g_9] (fun d=>(Ar0 d.1).val) (Fo g_3)
theorem Bcs:Fq 195 A4e:=Da [] trivial ⟨[vI 3,vS 7 (sR (.sl 113 Dm)),vI 8,vI 9],[],[]⟩ 4000000 [(.exit 0,⟨[vI 3],[],[]⟩)] 3 Ko Tryz.func195 0
def Hl:As:=Ar [g_0] (fun d=>(A2g d.1).val) (Fo g_1)
theorem Hm:Fq 190 Hl:=mkF [] trivial Tryz.func190 0
def G5:As:=Ar [g_0,g_0] (fun d=>(Av1 d.1 d.2.1).val) (Fo g_1)
theorem G8:Fq 73 G5:=mkF [] trivial Tryz.func73 0
def Ayb:As:=Ar [g_6,g_6] (fun d=>(Ahn d.1 d.2.1).val) (Fo g_1)
theorem Be4:Fq 341 Ayb:=Da [] trivial ⟨[vS 1 sL,vS 12 sL,vI 13,vI 14],[],[]⟩ 5000000 [(.ret,⟨[(4,.v false [(.bool,.nil)])],[],[]⟩),(.exit 0,⟨[],[],[]⟩)] 4 Aom Tryz.func341 0
def Ar1:As:=Ar [Kb,Kb] (fun d=>(Ar2 d.1 d.2.1).val) (Fo g_1)
theorem A2h:Fq 310 Ar1:=mkF [Fz 73 G5,Fz 341 Ayb] ⟨G8,Be4,trivial⟩ Tryz.func310 0
def Aon:As:=Ar [F0] (fun d=>(Abi d.1).val) (Fo g_1)
theorem A7k:Fq 264 Aon:=mkF [Fz 310 Ar1] ⟨A2h,trivial⟩ Tryz.func264 0
def Tu:As:=Ar [g_3] (fun d=>(Ar3 d.1).val) (Fo g_1)
theorem U4:Fq 287 Tu:=mkF [] trivial Tryz.func287 0
def Ze:As:=Ar [g_6,g_3] (fun d=>(Aho d.1 d.2.1).val) (Fo g_1)
theorem Aes:Fq 363 Ze:=Da [Fz 36 Cd] ⟨B5,trivial⟩ ⟨[vS 0 sL,vI 1,vS 7 sL,vI 8,vI 9],[],[]⟩ 3000000 [(.ret,⟨[(4,.v false [(.bool,.nil)])],[],[]⟩),(.exit 0,⟨[vS 0 sL,vI 1],[],[]⟩)] 2 Od Tryz.func363 0
def Ar4:As:=Ar [Ma,g_3] (fun d=>(Ar5 d.1 d.2.1).val) (Fo g_1)
theorem A2i:Fq 364 Ar4:=mkF [] trivial Tryz.func364 0
def Ayc:As:=Ar [Ma] (fun d=>(Ayd d.1).val) (Fo g_1)
theorem A7l:Fq 342 Ayc:=Da [Fz 36 Cd,Fz 363 Ze,Fz 364 Ar4] ⟨B5,Aes,A2i,trivial⟩ ⟨[vX 1,vI 3],[(1,[sI,sL])],[]⟩ 5000000 [eB,(.exit 0,⟨[vX 1],[(1,[sI,sL])],[]⟩)] 4 Q3 Tryz.func342 0
def Ahp:As:=Ar [Kb] (fun d=>(A4f d.1).val) (Fo g_1)
theorem Aj5:Fq 311 Ahp:=mkF [Fz 36 Cd,Fz 342 Ayc] ⟨B5,A7l,trivial⟩ Tryz.func311 0
def Bct:As:=Ar [F0] (fun d=>(Aye d.1).val) (Fo g_1)
theorem Bns:Fq 312 Bct:=mkF [Fz 310 Ar1,Fz 311 Ahp,Fz 36 Cd] ⟨A2h,Aj5,B5,trivial⟩ Tryz.func312 0
def Mv:As:=Ar [F0] (fun d=>(Ar6 d.1).val) (Fo g_1)
theorem Ns:Fq 265 Mv:=mkF [Fz 287 Tu,Fz 190 Hl,Fz 311 Ahp,Fz 312 Bct] ⟨U4,Hm,Aj5,Bns,trivial⟩ Tryz.func265 0
def Ie:As:=Ar [Ev] (fun d=>(Ar7 d.1).val) (Fo g_1)
theorem H8:Fq 37 Ie:=mkF [Fz 36 Cd] ⟨B5,trivial⟩ Tryz.func37 0
def Acp:As:=Ar [H5] (fun d=>(Acq d.1).val) (Fo g_1)
def U5:Fns:=[Fz 37 Ie,Fz 190 Hl,Fz 36 Cd]
theorem Amj:CfgOk Tryz.prog (D7 U5):=Gu Ms Ji (show Kn Tryz.prog U5 from⟨H8,Hm,B5,trivial⟩)
def Av2:Sk:=⟨[vX 1,vS 18 (sR (.sl 228 h_4)),vI 19,vI 20],[(1,[sI,sI,sR (.sl 228 h_4)])],[]⟩
def Av3:List (Ex×Sk):=[eB,(.exit 0,⟨[],[],[]⟩)]
def Av4:Sk:=⟨[vX 1,vX 4,vS 18 (sR (.sl 228 h_4)),vI 19,vI 20,vS 51 (sR (.sl 228 h_4)),vI 52,vI 53],[(1,[sI,sI,sR (.sl 228 h_4)]),(4,[sI,sI,sB,sI])],[]⟩
def Av5:List (Ex×Sk):=[eB,(.exit 2,⟨[vX 1,vS 18 (sR (.sl 228 h_4)),vI 19,vI 20],[(1,[sI,sI,sR (.sl 228 h_4)])],[]⟩)]
def U6:G7:=fun i st=>cond (Nat.beq i 9) (lam Av4 10000000 Av5 Kc st) <| cond (Nat.beq i 4) (lam Av2 5000000 Av3 Mj st) <| .fail
theorem Bag (cx:Cx) (hp:cx.pin.length<=0):Ek Tryz.prog cx Tryz.f266.ntmps U6 (Bf Tryz.f266 1):=Fs Amj hp (Ds (by kernel_rfl:B9 (Bf Tryz.f266 1)=[]) trivial) (by kernel_rfl) (fun d=>(by kernel_rfl:bod (D7 U5) 0 Tryz.f266.ntmps U6 (Bf Tryz.f266 1) Av4 10000000 Av5 d=Kc d))
theorem Bah (cx:Cx) (hp:cx.pin.length<=0):Ek Tryz.prog cx Tryz.f266.ntmps U6 (Bf Tryz.f266 0):=Fs Amj hp (Ds (by kernel_rfl:B9 (Bf Tryz.f266 0)=[Bf Tryz.f266 1]) ⟨Bag cx hp,trivial⟩) (by kernel_rfl) (fun d=>(by kernel_rfl:bod (D7 U5) 0 Tryz.f266.ntmps U6 (Bf Tryz.f266 0) Av2 5000000 Av3 d=Mj d))
theorem Ahq:Fq 266 Acp:=Ny Amj Tryz.func266 (by kernel_rfl) (by kernel_rfl) (fun cx b hp hb=>Ds (by kernel_rfl:B9 (Tryz.f266.body.getD .skip)=[Bf Tryz.f266 0]) ⟨Bah cx hp,trivial⟩ b hb) (fun d=>(by kernel_rfl:Ia (D7 U5) 0 U6 Tryz.f266 .plain (mkA [H5] d)=(Acq d.1).run fun r=>some ([rv g_1 r],[])))
def Zf:As:=Ar [Iw] (fun d=>(Ar8 d.1).val) (Fo g_1)
theorem Acr:Fq 196 Zf:=mkF [Fz 36 Cd,Fz 190 Hl,Fz 264 Aon,Fz 265 Mv,Fz 73 G5,Fz 266 Acp] ⟨B5,Hm,A7k,Ns,G8,Ahq,trivial⟩ Tryz.func196 0
def Zg:As:=Ar [g_9,g_0] (fun d=>(Ar9 d.1 d.2.1).val) (Fo g_3)
theorem Acs:Fq 146 Zg:=Da [Fz 73 G5] ⟨G8,trivial⟩ ⟨[vS 1 sB,vS 8 (sR (.sl 113 Dm)),vI 9,vI 10],[],[]⟩ 3000000 [(.ret,⟨[vI 4],[],[]⟩),(.exit 0,⟨[],[],[]⟩)] 2 R8 Tryz.func146 0
def Aj6:As:=Ar [g_9] (fun d=>(Ayf d.1).val) (Fo g_1)
theorem Asa:Fq 77 Aj6:=Da [Fz 36 Cd,Fz 195 A4e,Fz 196 Zf,Fz 146 Zg] ⟨B5,Bcs,Acr,Acs,trivial⟩ ⟨[vX 1,vS 23 (sR (.sl 113 Dm)),vI 24,vI 25],[(1,[sI,sR (.sl 113 Dm)])],[]⟩ 5000000 [eB,(.exit 0,⟨[],[],[]⟩)] 4 U7 Tryz.func77 0
def R9:As:=Ar [Nn,Ev] (fun d=>(Ahr d.1 d.2.1).val) (Fo g_3)
theorem V0:Fq 137 R9:=Da [] trivial ⟨[vX 3,vS 7 (sR (.sl 175 h_2)),vI 8,vI 9],[(3,[sI,sI])],[]⟩ 3000000 [(.ret,⟨[vI 4],[],[]⟩),(.exit 0,⟨[],[],[]⟩)] 2 Oe Tryz.func137 0
def Qo:As:=Ar [Nn] (fun d=>(Aet d.1).val) (Fo g_1)
theorem Tv:Fq 78 Qo:=Da [Fz 37 Ie,Fz 36 Cd,Fz 137 R9] ⟨H8,B5,V0,trivial⟩ ⟨[vS 0 (sR (.sl 175 h_2)),vS 8 (sR (.sl 175 h_2)),vI 9,vI 10],[],[]⟩ 5000000 [eB,(.exit 0,⟨[],[],[]⟩)] 4 Mw Tryz.func78 0
def Adr:As:=Ar [g_0] (fun d=>(Ayg d.1).val) (Fo g_1)
theorem Afu:Fq 79 Adr:=mkF [Fz 36 Cd] ⟨B5,trivial⟩ Tryz.func79 0
def Ahs:As:=Ar [Hk] (fun d=>(Zh d.1).val) (Fo g_1)
def Sa:Fns:=[Fz 36 Cd,Fz 75 Aj4,Fz 76 Ary,Fz 77 Aj6,Fz 78 Qo,Fz 79 Adr]
theorem Aht:CfgOk Tryz.prog (D7 Sa):=Gu Ms Ji (show Kn Tryz.prog Sa from⟨B5,Arx,A2f,Asa,Tv,Afu,trivial⟩)
def Aj7:Sk:=⟨[vX 1,vS 49 (sR (.sl 113 Dm)),vI 50,vI 51],[(1,[sR (.sl 22 [.sl 5 [.int .u8]]),sB,sB,sI,sI,sR (.sl 113 Dm),sR (.sl 175 h_2)])],[]⟩
def Aj8:List (Ex×Sk):=[eB,(.exit 2,⟨[],[],[]⟩)]
def Aoo:Sk:=⟨[vX 1,vS 37 (sR (.sl 22 [.sl 5 [.int .u8]])),vI 38,vI 39],[(1,[sR (.sl 22 [.sl 5 [.int .u8]]),sB,sB,sI,sI,sR (.sl 113 Dm),sR (.sl 175 h_2)])],[]⟩
def Aop:List (Ex×Sk):=[eB,(.exit 0,⟨[vX 1],[(1,[sR (.sl 22 [.sl 5 [.int .u8]]),sB,sB,sI,sI,sR (.sl 113 Dm),sR (.sl 175 h_2)])],[]⟩)]
def Sb:G7:=fun i st=>cond (Nat.beq i 4) (lam Aoo 5000000 Aop Lg st) <| cond (Nat.beq i 10) (lam Aj7 11000000 Aj8 J3 st) <| .fail
theorem A7m (cx:Cx) (hp:cx.pin.length<=0):Ek Tryz.prog cx Tryz.f10.ntmps Sb (Bf Tryz.f10 0):=Fs Aht hp (Ds (by kernel_rfl:B9 (Bf Tryz.f10 0)=[]) trivial) (by kernel_rfl) (fun d=>(by kernel_rfl:bod (D7 Sa) 0 Tryz.f10.ntmps Sb (Bf Tryz.f10 0) Aoo 5000000 Aop d=Lg d))
theorem A4g (cx:Cx) (hp:cx.pin.length<=0):Ek Tryz.prog cx Tryz.f10.ntmps Sb (Bf Tryz.f10 1):=Fs Aht hp (Ds (by kernel_rfl:B9 (Bf Tryz.f10 1)=[]) trivial) (by kernel_rfl) (fun d=>(by kernel_rfl:bod (D7 Sa) 0 Tryz.f10.ntmps Sb (Bf Tryz.f10 1) Aj7 11000000 Aj8 d=J3 d))
theorem Av6:Fq 10 Ahs:=Ny Aht Tryz.func10 (by kernel_rfl) (by kernel_rfl) (fun cx b hp hb=>Ds (by kernel_rfl:B9 (Tryz.f10.body.getD .skip)=[Bf Tryz.f10 0,Bf Tryz.f10 1]) ⟨A7m cx hp,A4g cx hp,trivial⟩ b hb) (fun d=>(by kernel_rfl:Ia (D7 Sa) 0 Sb Tryz.f10 .plain (mkA [Hk] d)=(Zh d.1).run fun r=>some ([rv g_1 r],[])))
def Bgl:As:=Ar [Nn,Ev,g_3] (fun d=>(A4h d.1 d.2.1 d.2.2.1).val) (Fo Nn)
theorem Bqk:Fq 38 Bgl:=mkF [Fz 136 Rf,Fz 78 Qo,Fz 37 Ie,Fz 36 Cd,Fz 137 R9] ⟨We,Tv,H8,B5,V0,trivial⟩ Tryz.func38 0
def Ayh:As:=Ar [g_8,g_3] (fun d=>(Ayi d.1 d.2.1).val) fun r=>([rv g_0 r.1],[rv g_8 r.2])
theorem A7n:Fn Tryz.prog 71 (.box [3] false true) Ayh:=mkF [Fz 134 Dc] ⟨C0,trivial⟩ Tryz.func71 1
def Bl7:As:=Ar [g_0,g_3,g_3] (fun d=>(Bai d.1 d.2.1 d.2.2.1).val) fun r=>([rv g_0 r.1,rv g_1 r.2],[])
theorem Btg:Fq 263 Bl7:=mkF [] trivial Tryz.func263 0
def A4i:As:=Ar [g_0,g_3,g_3] (fun d=>(A4j d.1 d.2.1 d.2.2.1).val) fun r=>([rv g_3 r.1,rv g_3 r.2.1,rv g_1 r.2.2],[])
theorem Bcu:Fq 189 A4i:=Da [Fz 263 Bl7] ⟨Btg,trivial⟩ ⟨[vI 1,vI 2,vI 11,vS 29 (sO 9000000),vI 30,vI 31],[],[9000000]⟩ 9000000 [(.exit 0,⟨[vI 1,vI 2,vI 11],[],[]⟩)] 8 Tw Tryz.func189 0
def A7o:As:=Ar [g_8,g_3] (fun d=>(Asb d.1 d.2.1).val) fun r=>([rv g_3 r.1],[rv g_8 r.2])
theorem Bkk:Fn Tryz.prog 70 (.box [3] false true) A7o:=mkF [(71,(.box [3] false true),Ayh),Fz 189 A4i] ⟨A7n,Bcu,trivial⟩ Tryz.func70 1
def Pn:As:=Ar [g_3] (fun d=>(Asc d.1).val) (Fo g_1)
theorem Q4:Fq 41 Pn:=mkF [Fz 36 Cd] ⟨B5,trivial⟩ Tryz.func41 0
def A7p:As:=Ar [g_3,g_3] (fun d=>(Asd d.1 d.2.1).val) (Fo g_1)
theorem Bkl:Fq 191 A7p:=mkF [] trivial Tryz.func191 0
def Av7:As:=Ar [En,En] (fun d=>(Aeu d.1 d.2.1).val) (Fo g_1)
theorem Baj:Fq 192 Av7:=mkF [Fz 73 G5] ⟨G8,trivial⟩ Tryz.func192 0
def I8:As:=Ar [En] (fun d=>(Amk d.1).val) (Fo g_1)
theorem Jk:Fq 72 I8:=mkF [Fz 36 Cd,Fz 190 Hl,Fz 41 Pn,Fz 191 A7p,Fz 192 Av7] ⟨B5,Hm,Q4,Bkl,Baj,trivial⟩ Tryz.func72 0
def Hr:As:=Ar [g_4] (fun d=>(Ase d.1).val) (Fo g_0)
theorem Hn:Fq 193 Hr:=Da [] trivial ⟨[vS 3 (sO 4000000),vS 7 (sR (.sl 22 [.sl 5 [.int .u8]])),vI 8,vI 9],[],[4000000]⟩ 4000000 [(.exit 0,⟨[vS 3 (sO 4000000)],[],[4000000]⟩)] 3 Of Tryz.func193 0
def Lw:As:=Ar [g_0,g_3,g_3] (fun d=>(Bgm d.1 d.2.1 d.2.2.1).val) (Fo g_0)
theorem K5:Fq 194 Lw:=Da [] trivial ⟨[vI 1,vS 7 (sO 6000000),vI 8],[],[6000000]⟩ 6000000 [(.exit 0,⟨[vS 7 (sO 6000000)],[],[6000000]⟩)] 5 A7q Tryz.func194 0
def Ahu:As:=Ar [En] (fun d=>(Ahv d.1).val) (Fo g_0)
theorem Av8:Fq 74 Ahu:=mkF [Fz 72 I8,Fz 193 Hr,Fz 194 Lw] ⟨Jk,Hn,K5,trivial⟩ Tryz.func74 0
def Ahw:As:=Ar [g_0] (fun d=>(Zi d.1).val) fun r=>([rv En r.1,rv g_1 r.2],[])
theorem Av9:Fq 9 Ahw:=mkF [(70,(.box [3] false true),A7o),(71,(.box [3] false true),Ayh),Fz 41 Pn,Fz 72 I8,Fz 74 Ahu,Fz 73 G5] ⟨Bkk,A7n,Q4,Jk,Av8,G8,trivial⟩ Tryz.func9 0
def A4k:As:=Ar [g_9,Ev] (fun d=>(A4l d.1 d.2.1).val) (Fo g_1)
theorem Bcv:Fq 43 A4k:=Da [] trivial ⟨[vX 3,vS 8 (sR (.sl 113 Dm)),vI 9,vI 10],[(3,[sI,sI])],[]⟩ 3000000 [(.ret,⟨[(4,.v false [(.bool,.nil)])],[],[]⟩),(.exit 0,⟨[],[],[]⟩)] 2 Zj Tryz.func43 0
def Aml:As:=Ar [Nn,Ev] (fun d=>(Acu d.1 d.2.1).val) (Fo g_3)
theorem Ayj:Fq 155 Aml:=mkF [Fz 137 R9,Fz 78 Qo] ⟨V0,Tv,trivial⟩ Tryz.func155 0
def Asf:As:=Ar [Hk,Ev,g_3] (fun d=>(Asg d.1 d.2.1 d.2.2.1).val) (Fo g_1)
theorem A2j:Fq 138 Asf:=mkF [Fz 43 A4k,Fz 155 Aml] ⟨Bcv,Ayj,trivial⟩ Tryz.func138 0
def Bcw:As:=Ar [] (fun d=>(Bcx).val) (Fo g_6)
theorem Bnt:Fq 376 Bcw:=mkF [] trivial Tryz.func376 0
def A2k:As:=Ar [] (fun d=>(A2l).val) (Fo Bf7)
theorem Bgn:Fq 356 A2k:=mkF [Fz 376 Bcw] ⟨Bnt,trivial⟩ Tryz.func356 0
def Ash:As:=Ar [Bf7] (fun d=>(Asi d.1).val) (Fo g_1)
theorem A2m:Fq 372 Ash:=mkF [Fz 363 Ze,Fz 36 Cd] ⟨Aes,B5,trivial⟩ Tryz.func372 0
def Bak:As:=Ar [g_3,g_3] (fun d=>(Bal d.1 d.2.1).val) (Fo g_3)
theorem Bgo:Fq 384 Bak:=mkF [] trivial Tryz.func384 0
def Ayk:As:=Ar [g_0] (fun d=>(Zk d.1).val) (Fo g_6)
def Sc:Fns:=[Fz 189 A4i,Fz 384 Bak]
theorem Ahx:CfgOk Tryz.prog (D7 Sc):=Gu Ms Ji (show Kn Tryz.prog Sc from⟨Bcu,Bgo,trivial⟩)
def Aoq:Sk:=⟨[vS 3 (sW (.sl 3 [.int .i64]) 10000000),vI 5],[],[10000000]⟩
def Aor:List (Ex×Sk):=[(.exit 2,⟨[vS 3 (sW (.sl 3 [.int .i64]) 10000000)],[],[10000000]⟩)]
def Aos:Sk:=⟨[vS 0 sB,vS 3 (sW (.sl 3 [.int .i64]) 6000000),vI 4],[],[6000000]⟩
def Aot:List (Ex×Sk):=[(.exit 0,⟨[vS 3 (sW (.sl 3 [.int .i64]) 6000000)],[],[6000000]⟩)]
def Sd:G7:=fun i st=>cond (Nat.beq i 5) (lam Aos 6000000 Aot Lh st) <| cond (Nat.beq i 9) (lam Aoq 10000000 Aor Li st) <| .fail
theorem A7r (cx:Cx) (hp:cx.pin.length<=0):Ek Tryz.prog cx Tryz.f383.ntmps Sd (Bf Tryz.f383 0):=Fs Ahx hp (Ds (by kernel_rfl:B9 (Bf Tryz.f383 0)=[]) trivial) (by kernel_rfl) (fun d=>(by kernel_rfl:bod (D7 Sc) 0 Tryz.f383.ntmps Sd (Bf Tryz.f383 0) Aos 6000000 Aot d=Lh d))
theorem A7s (cx:Cx) (hp:cx.pin.length<=0):Ek Tryz.prog cx Tryz.f383.ntmps Sd (Bf Tryz.f383 1):=Fs Ahx hp (Ds (by kernel_rfl:B9 (Bf Tryz.f383 1)=[]) trivial) (by kernel_rfl) (fun d=>(by kernel_rfl:bod (D7 Sc) 0 Tryz.f383.ntmps Sd (Bf Tryz.f383 1) Aoq 10000000 Aor d=Li d))
theorem Be5:Fq 383 Ayk:=Ny Ahx Tryz.func383 (by kernel_rfl) (by kernel_rfl) (fun cx b hp hb=>Ds (by kernel_rfl:B9 (Tryz.f383.body.getD .skip)=[Bf Tryz.f383 0,Bf Tryz.f383 1]) ⟨A7r cx hp,A7s cx hp,trivial⟩ b hb) (fun d=>(by kernel_rfl:Ia (D7 Sc) 0 Sd Tryz.f383 .plain (mkA [g_0] d)=(Zk d.1).run fun r=>some ([rv g_6 r],[])))
theorem Bql (n:Int) (w:World) (h0:0<=n) (h1:n<=63):
  Calls Tryz.prog 385 #[.int .i64 n] w (Ret w (.int .i64 (U8[n.toNat]?.getD 0))):=by
 have hx: ∃x,U8[n.toNat]? =some x:=⟨_,List.getElem?_eq_getElem (by simp[U8];omega)⟩
 obtain⟨x,hx⟩:=hx
 have hcell:(Ayl 327 w A7t).cell? ⟨w.heap.size,n.toNat,none⟩=some (.int .i64 x):=by
  rw[Bkm];unfold A7t;rw[List.getElem?_toArray,List.getElem?_map,hx];rfl
 rw[hx]
 go_enter Tryz.func385,Tryz.ntmps385
 go_wp2_with (first|(refine Be6 rfl 327 _ rfl A7t (by kernel_rfl) ?_)|(refine Be7 rfl 327 rfl _ _ A7u (by kernel_rfl) (by kernel_rfl) (by kernel_rfl) ?_)|(refine Be8 rfl 327 _ _ rfl A7t rfl rfl (by kernel_rfl) (by kernel_rfl) (by kernel_rfl) ?_))
 go_ret
 refine Ret.mk rfl ?_
 rw[Bqm]
 exact(Dp.refl _).alloc _
theorem Bqn (n:Int) (w:World) (h0: ¬(0<=n/\n<=63)):
  Calls Tryz.prog 385 #[.int .i64 n] w (Ret w (.int .i64 0)):=by
 by_cases h:n<0
 .go_enter Tryz.func385,Tryz.ntmps385
  go_wp2_with fail
  go_ret
  exact Ret.mk rfl (Dp.refl _)
 .have h2:63<n:=by omega
  go_enter Tryz.func385,Tryz.ntmps385
  go_wp2_with fail
  go_ret
  exact Ret.mk rfl (Dp.refl _)
def Be9:List (Bool×List Sh):=[(false,[.int .i64])]
def Bfa (r:YI):List RV×List RV:=([rv (false,[.int .i64]) r],[])
def Awa:As:=Ar Be9 (fun d=>(Awb d.1).val) Bfa
theorem Bam:Fq 385 Awa:=by
 refine⟨?_,Tryz.f385,Tryz.func385,by kernel_rfl,by kernel_rfl⟩
 intro rs res vals w G hv hG hr
 obtain⟨d,x,rfl,h1,h2⟩:=Bgp hv
 obtain⟨⟨n,_⟩,_⟩:=d
 cases h1
 subst h2
 match vals,hr with
 |[v],hr=>
  have e:v= .int .i64 n:=hr.1.1.1
  subst e
  refine(?_:Calls Tryz.prog 385 #[.int .i64 n] w (Ret w (.int .i64 (Ads n)))).mono fun e w' h=>Bqo (Bqp n) h
  unfold Ads
  by_cases h:0<=n/\n<=63
  .rw[if_pos h];exact Bql n w h.1 h.2
  .rw[if_neg h];exact Bqn n w h

def Bcy:As:=Ar [g_3,g_3] (fun d=>(Bcz d.1 d.2.1).val) (Fo g_3)
theorem Bnu:Fq 386 Bcy:=mkF [] trivial Tryz.func386 0
def Aym:As:=Ar [g_6,g_0] (fun d=>(Zl d.1 d.2.1).val) (Fo g_6)
def Se:Fns:=[Fz 363 Ze,Fz 383 Ayk,Fz 384 Bak,Fz 385 Awa,Fz 386 Bcy]
theorem Ahy:CfgOk Tryz.prog (D7 Se):=Gu Ms Ji (show Kn Tryz.prog Se from⟨Aes,Be5,Bgo,Bam,Bnu,trivial⟩)
def Aj9:Sk:=⟨[vS 0 sL,vS 5 (sW (.sl 3 [.int .i64]) 17000000),vS 133 (sW (.sl 3 [.int .i64]) 17000001),vI 134,vI 135],[],[17000000,17000001]⟩
def Aka:List (Ex×Sk):=[(.exit 2,⟨[vS 5 (sW (.sl 3 [.int .i64]) 17000000)],[],[17000000]⟩)]
def Aou:Sk:=⟨[vS 0 sL,vS 5 (sW (.sl 3 [.int .i64]) 8000000),vS 6 (sW (.sl 3 [.int .i64]) 8000001),vI 7,vI 8,vI 9,vI 10,vI 11,vI 12,vI 13,vI 14,vI 15],[],[8000000,8000001]⟩
def Aov:List (Ex×Sk):=[(.exit 0,⟨[vS 0 sL,vS 5 (sW (.sl 3 [.int .i64]) 8000000),vI 7,vI 8,vI 9,vI 10,vI 11,vI 12,vI 13,vI 14],[],[8000000]⟩)]
def Sf:G7:=fun i st=>cond (Nat.beq i 7) (lam Aou 8000000 Aov I2 st) <| cond (Nat.beq i 16) (lam Aj9 17000000 Aka Ig st) <| .fail
theorem A7v (cx:Cx) (hp:cx.pin.length<=0):Ek Tryz.prog cx Tryz.f381.ntmps Sf (Bf Tryz.f381 0):=Fs Ahy hp (Ds (by kernel_rfl:B9 (Bf Tryz.f381 0)=[]) trivial) (by kernel_rfl) (fun d=>(by kernel_rfl:bod (D7 Se) 0 Tryz.f381.ntmps Sf (Bf Tryz.f381 0) Aou 8000000 Aov d=I2 d))
theorem A4m (cx:Cx) (hp:cx.pin.length<=0):Ek Tryz.prog cx Tryz.f381.ntmps Sf (Bf Tryz.f381 1):=Fs Ahy hp (Ds (by kernel_rfl:B9 (Bf Tryz.f381 1)=[]) trivial) (by kernel_rfl) (fun d=>(by kernel_rfl:bod (D7 Se) 0 Tryz.f381.ntmps Sf (Bf Tryz.f381 1) Aj9 17000000 Aka d=Ig d))
theorem Bfb:Fq 381 Aym:=Ny Ahy Tryz.func381 (by kernel_rfl) (by kernel_rfl) (fun cx b hp hb=>Ds (by kernel_rfl:B9 (Tryz.f381.body.getD .skip)=[Bf Tryz.f381 0,Bf Tryz.f381 1]) ⟨A7v cx hp,A4m cx hp,trivial⟩ b hb) (fun d=>(by kernel_rfl:Ia (D7 Se) 0 Sf Tryz.f381 .plain (mkA [g_6,g_0] d)=(Zl d.1 d.2.1).run fun r=>some ([rv g_6 r],[])))
def Zm:As:=Ar [g_6,g_0] (fun d=>(Zn d.1 d.2.1).val) fun r=>([rv g_6 r.1,rv g_0 r.2],[])
theorem Ahz:Fn Tryz.prog 373 .view Zm:=Da [Fz 381 Aym] ⟨Bfb,trivial⟩ ⟨[(0,.v false [(.sl 3 [.int .i64],.rd)]),vS 1 sB],[],[]⟩ 2000000 [(.exit 0,⟨[(0,.v false [(.sl 3 [.int .i64],.rd)]),vS 1 sB],[],[]⟩)] 1 Hh Tryz.func373 0
def A2n:As:=Ar [Bf7,g_0] (fun d=>(Amm d.1 d.2.1).val) (Fo Bf7)
theorem Bgq:Fq 355 A2n:=mkF [Fz 372 Ash,Fz 134 Dc,Fz 193 Hr,(373,.view,Zm)] ⟨A2m,C0,Hn,Ahz,trivial⟩ Tryz.func355 0
def Bl8:As:=Ar [g_3] (fun d=>(Ban d.1).val) (Fo g_0)
theorem Bth:Fq 374 Bl8:=Da [Fz 36 Cd,Fz 194 Lw] ⟨B5,K5,trivial⟩ ⟨[vI 0,vS 3 (sO 5000000)],[],[5000000]⟩ 5000000 [(.exit 0,⟨[vI 0,vS 3 (sO 5000000)],[],[5000000]⟩)] 4 Si Tryz.func374 0
def Awc:As:=Ar [g_6] (fun d=>(Aev d.1).val) (Fo g_0)
theorem Bao:Fq 375 Awc:=Da [Fz 194 Lw] ⟨K5,trivial⟩ ⟨[vS 3 (sO 4000000),vS 7 sL,vI 8,vI 9],[],[4000000]⟩ 4000000 [(.exit 0,⟨[vS 3 (sO 4000000)],[],[4000000]⟩)] 3 J4 Tryz.func375 0
def A2o:As:=Ar [Bf7] (fun d=>(Amn d.1).val) (Fo g_0)
theorem Bgr:Fq 354 A2o:=mkF [Fz 372 Ash,Fz 374 Bl8,Fz 193 Hr,(373,.view,Zm),Fz 375 Awc] ⟨A2m,Bth,Hn,Ahz,Bao,trivial⟩ Tryz.func354 0
def Bap:As:=Ar [g_0] (fun d=>(Baq d.1).val) (Fo g_0)
theorem Bgs:Fq 326 Bap:=mkF [Fz 356 A2k,Fz 355 A2n,Fz 354 A2o] ⟨Bgn,Bgq,Bgr,trivial⟩ Tryz.func326 0
def Ayn:As:=Ar [g_0] (fun d=>(Ah0 d.1).val) (Fo g_0)
theorem Bfc:Fq 325 Ayn:=Da [Fz 134 Dc,Fz 326 Bap] ⟨C0,Bgs,trivial⟩ ⟨[vS 3 (sO 7000000)],[],[7000000]⟩ 7000000 [(.exit 0,⟨[vS 3 (sO 7000000)],[],[7000000]⟩)] 6 Hx Tryz.func325 0
def A7w:As:=Ar [g_0,Byd] (fun d=>(Asj d.1 d.2.1).val) (Fo g_0)
theorem Bkn:Fq 327 A7w:=Da [] trivial ⟨[(1,.v false [(.int .u8,.nil)]),vS 5 (sO 4000000),vS 9 sB,vI 10,vI 11],[],[4000000]⟩ 4000000 [(.exit 0,⟨[vS 5 (sO 4000000)],[],[4000000]⟩)] 3 Og Tryz.func327 0
def Abj:As:=Ar [g_0,g_0] (fun d=>(A4n d.1 d.2.1).val) (Fo g_0)
theorem Adt:Fq 285 Abj:=mkF [Fz 325 Ayn,Fz 327 A7w,Fz 193 Hr,Fz 326 Bap] ⟨Bfc,Bkn,Hn,Bgs,trivial⟩ Tryz.func285 0
def A7x:As:=Ar [g_0,g_3] (fun d=>(Ask d.1 d.2.1).val) (Fo g_0)
theorem Bko:Fq 223 A7x:=mkF [Fz 36 Cd,Fz 194 Lw,Fz 285 Abj,Fz 134 Dc] ⟨B5,K5,Adt,C0,trivial⟩ Tryz.func223 0
def A4o:As:=Ar [g_5] (fun d=>(A4p d.1).val) fun r=>([rv g_5 r.1,rv g_0 r.2],[])
theorem Bc0:Fq 139 A4o:=mkF [Fz 134 Dc,Fz 76 Ary,Fz 223 A7x] ⟨C0,A2f,Bko,trivial⟩ Tryz.func139 0
def A2p:As:=Ar [g_0,Ev] (fun d=>(Amo d.1 d.2.1).val) (Fo g_0)
theorem Bgt:Fq 225 A2p:=mkF [Fz 37 Ie,Fz 134 Dc,Fz 194 Lw] ⟨H8,C0,K5,trivial⟩ Tryz.func225 0
def Zo:As:=Ar [Ev,g_3,g_0,g_0,g_3] (fun d=>(Ah1 d.1 d.2.1 d.2.2.1 d.2.2.2.1 d.2.2.2.2.1).val) (Fo g_0)
theorem Aew:Fq 142 Zo:=mkF [Fz 37 Ie,Fz 36 Cd,Fz 190 Hl,Fz 225 A2p,Fz 194 Lw,Fz 193 Hr] ⟨H8,B5,Hm,Bgt,K5,Hn,trivial⟩ Tryz.func142 0
def Aow:As:=Ar [g_0,g_0] (fun d=>(Bar d.1 d.2.1).val) (Fo g_0)
theorem Asl:Fq 224 Aow:=mkF [Fz 285 Abj,Fz 134 Dc] ⟨Adt,C0,trivial⟩ Tryz.func224 0
def A4q:As:=Ar [g_8,Ev,g_3,g_0,g_0,g_3] (fun d=>(A4r d.1 d.2.1 d.2.2.1 d.2.2.2.1 d.2.2.2.2.1 d.2.2.2.2.2.1).val) (Fo g_0)
theorem Bc1:Fq 140 A4q:=mkF [Fz 142 Zo,Fz 75 Aj4,Fz 224 Aow] ⟨Aew,Arx,Asl,trivial⟩ Tryz.func140 0
def A4s:As:=Ar [g_0,g_0] (fun d=>(A4t d.1 d.2.1).val) (Fo Alc)
theorem Bc2:Fq 141 A4s:=mkF [Fz 134 Dc] ⟨C0,trivial⟩ Tryz.func141 0
def Ah2:As:=Ar [g_0] (fun d=>(Ah3 d.1).val) (Fo Alc)
theorem Awd:Fq 143 Ah2:=mkF [Fz 134 Dc] ⟨C0,trivial⟩ Tryz.func143 0
def Ayo:As:=Ar [Hk,g_3,Ev,En] (fun d=>(Zp d.1 d.2.1 d.2.2.1 d.2.2.2.1).val) fun r=>([rv Hk r.1,rv Abd r.2.1,rv Abe r.2.2],[])
theorem Bfd:Fn Tryz.prog 39 (.lend [2]) Ayo:=mkF [Fz 138 Asf,Fz 139 A4o,Fz 140 A4q,Fz 134 Dc,Fz 142 Zo,Fz 141 A4s,Fz 143 Ah2] ⟨A2j,Bc0,Bc1,C0,Aew,Bc2,Awd,trivial⟩ Tryz.func39 1
def Bc3:As:=Ar [g_3,g_3] (fun d=>(Ayp d.1 d.2.1).val) (Fo g_1)
theorem Bnv:Fq 226 Bc3:=mkF [Fz 36 Cd] ⟨B5,trivial⟩ Tryz.func226 0
def A4u:As:=Ar [g_0,g_0] (fun d=>(A4v d.1 d.2.1).val) (Fo g_3)
theorem Bc4:Fq 286 A4u:=Da [] trivial ⟨[vS 0 sB,vS 1 sB,vI 5,vI 13,vI 14],[],[]⟩ 6000000 [(.exit 0,⟨[vI 5],[],[]⟩)] 5 Zq Tryz.func286 0
def Acv:As:=Ar [g_0,g_0] (fun d=>(Amp d.1 d.2.1).val) (Fo g_1)
theorem Ah4:Fq 227 Acv:=mkF [Fz 286 A4u] ⟨Bc4,trivial⟩ Tryz.func227 0
def Bc5:As:=Ar [g_8,g_3,Ev,En] (fun d=>(Akb d.1 d.2.1 d.2.2.1 d.2.2.2.1).val) (Fo g_3)
theorem Bnw:Fq 144 Bc5:=mkF [Fz 75 Aj4,Fz 36 Cd,Fz 37 Ie,Fz 72 I8,Fz 226 Bc3,Fz 140 A4q,Fz 227 Acv] ⟨Arx,B5,H8,Jk,Bnv,Bc1,Ah4,trivial⟩ Tryz.func144 0
def Amq:As:=Ar [g_0,g_0] (fun d=>(Acw d.1 d.2.1).val) (Fo g_0)
theorem Ayq:Fq 233 Amq:=mkF [Fz 285 Abj] ⟨Adt,trivial⟩ Tryz.func233 0
def A7y:As:=Ar [g_0,g_0,g_3] (fun d=>(Asm d.1 d.2.1 d.2.2.1).val) fun r=>([rv g_0 r.1,rv g_1 r.2],[])
theorem Bkp:Fq 292 A7y:=Da [Fz 36 Cd,Fz 193 Hr,Fz 285 Abj,Fz 134 Dc] ⟨B5,Hn,Adt,C0,trivial⟩ ⟨[vS 0 sB,vS 1 sB,vI 2,vS 8 (sO 7000000),vS 9 (sO 7000001),vI 10],[],[7000000,7000001]⟩ 7000000 [(.exit 0,⟨[vI 2,vS 8 (sO 7000000)],[],[7000000]⟩)] 6 Oh Tryz.func292 0
def Zr:As:=Ar [g_0,g_7] (fun d=>(Asn d.1 d.2.1).val) (Fo g_0)
theorem Acx:Fq 232 Zr:=mkF [Fz 292 A7y] ⟨Bkp,trivial⟩ Tryz.func232 0
def Aex:As:=Ar [g_0] (fun d=>(Aey d.1).val) (Fo g_0)
theorem Aox:Fq 150 Aex:=mkF [Fz 79 Adr,Fz 233 Amq,Fz 232 Zr] ⟨Afu,Ayq,Acx,trivial⟩ Tryz.func150 0
def Aez:As:=Ar [g_3,g_0,g_0,g_3,g_0] (fun d=>(Ae0 d.1 d.2.1 d.2.2.1 d.2.2.2.1 d.2.2.2.2.1).val) (Fo g_0)
theorem Aoy:Fq 151 Aez:=mkF [Fz 36 Cd,Fz 190 Hl,Fz 194 Lw,Fz 193 Hr] ⟨B5,Hm,K5,Hn,trivial⟩ Tryz.func151 0
def Bc6:As:=Ar [g_0,g_3,g_0,g_0,g_3,g_0] (fun d=>(Ayr d.1 d.2.1 d.2.2.1 d.2.2.2.1 d.2.2.2.2.1 d.2.2.2.2.2.1).val) (Fo g_0)
theorem Bnx:Fq 228 Bc6:=mkF [Fz 150 Aex,Fz 151 Aez,Fz 224 Aow] ⟨Aox,Aoy,Asl,trivial⟩ Tryz.func228 0
def A2q:As:=Ar [g_0,En] (fun d=>(Acy d.1 d.2.1).val) (Fo g_1)
theorem Bgu:Fq 145 A2q:=mkF [Fz 72 I8,Fz 228 Bc6,Fz 227 Acv] ⟨Jk,Bnx,Ah4,trivial⟩ Tryz.func145 0
def Ays:As:=Ar [Ev] (fun d=>(Ah5 d.1).val) (Fo H5)
theorem Bfe:Fq 229 Ays:=mkF [] trivial Tryz.func229 0
def A2r:As:=Ar [g_0,g_0,g_0] (fun d=>(Amr d.1 d.2.1 d.2.2.1).val) (Fo g_0)
theorem Bgv:Fq 290 A2r:=mkF [Fz 79 Adr,Fz 190 Hl,Fz 193 Hr,Fz 233 Amq] ⟨Afu,Hm,Hn,Ayq,trivial⟩ Tryz.func290 0
def Ayt:As:=Ar [g_0] (fun d=>(Ah6 d.1).val) (Fo g_0)
theorem Bff:Fq 289 Ayt:=mkF [Fz 232 Zr] ⟨Acx,trivial⟩ Tryz.func289 0
def Bc7:As:=Ar [g_0,g_3] (fun d=>(Ayu d.1 d.2.1).val) (Fo g_0)
theorem Bny:Fq 291 Bc7:=Da [Fz 36 Cd,Fz 134 Dc,Fz 232 Zr] ⟨B5,C0,Acx,trivial⟩ ⟨[vI 1,vS 5 (sO 6000000),vI 6],[],[6000000]⟩ 6000000 [(.exit 0,⟨[vS 5 (sO 6000000)],[],[6000000]⟩)] 5 Q5 Tryz.func291 0
def Ayv:As:=Ar [g_0,g_0,g_0,g_3] (fun d=>(Ah7 d.1 d.2.1 d.2.2.1 d.2.2.2.1).val) (Fo g_0)
theorem Bfg:Fq 231 Ayv:=mkF [Fz 290 A2r,Fz 289 Ayt,Fz 291 Bc7] ⟨Bgv,Bff,Bny,trivial⟩ Tryz.func231 0
def A7z:As:=Ar [] (fun d=>(Aso).val) (Fo Ma)
theorem Bkq:Fq 328 A7z:=mkF [] trivial Tryz.func328 0
def Akc:As:=Ar [g_3,g_0] (fun d=>(Akd d.1 d.2.1).val) (Fo Kb)
theorem Asp:Fq 288 Akc:=mkF [Fz 36 Cd,Fz 134 Dc,Fz 328 A7z] ⟨B5,C0,Bkq,trivial⟩ Tryz.func288 0
def A2s:As:=Ar [g_3,g_0,g_0] (fun d=>(Acz d.1 d.2.1 d.2.2.1).val) (Fo F0)
theorem Bgw:Fq 230 A2s:=mkF [Fz 287 Tu,Fz 190 Hl,Fz 134 Dc,Fz 288 Akc] ⟨U4,Hm,C0,Asp,trivial⟩ Tryz.func230 0
def A2t:As:=Ar [g_0,g_3,Ev,En] (fun d=>(Ams d.1 d.2.1 d.2.2.1 d.2.2.2.1).val) (Fo Iw)
theorem Bgx:Fq 147 A2t:=mkF [Fz 79 Adr,Fz 36 Cd,Fz 37 Ie,Fz 72 I8,Fz 134 Dc,Fz 229 Ays,Fz 231 Ayv,Fz 230 A2s] ⟨Afu,B5,H8,Jk,C0,Bfe,Bfg,Bgw,trivial⟩ Tryz.func147 0
def A2u:As:=Ar [g_9,Iw] (fun d=>(Ac0 d.1 d.2.1).val) fun r=>([rv g_9 r.1,rv g_3 r.2],[])
theorem Bgy:Fq 148 A2u:=mkF [Fz 135 Aco,Fz 77 Aj6,Fz 196 Zf,Fz 146 Zg,Fz 195 A4e,Fz 222 Oc] ⟨Ahm,Asa,Acr,Acs,Bcs,Qn,trivial⟩ Tryz.func148 0
def A4w:As:=Ar [g_0,g_0,g_0] (fun d=>(A4x d.1 d.2.1 d.2.2.1).val) (Fo Alc)
theorem Bc8:Fq 149 A4w:=mkF [Fz 134 Dc] ⟨C0,trivial⟩ Tryz.func149 0
def Ae1:As:=Ar [g_3] (fun d=>(Ae2 d.1).val) (Fo g_0)
theorem Aoz:Fq 293 Ae1:=mkF [Fz 36 Cd,Fz 194 Lw] ⟨B5,K5,trivial⟩ Tryz.func293 0
def Afv:As:=Ar [g_3,g_0,g_3,g_3] (fun d=>(Asq d.1 d.2.1 d.2.2.1 d.2.2.2.1).val) (Fo g_0)
theorem Amt:Fq 295 Afv:=mkF [Fz 287 Tu,Fz 190 Hl,Fz 36 Cd,Fz 194 Lw,Fz 193 Hr] ⟨U4,Hm,B5,K5,Hn,trivial⟩ Tryz.func295 0
def A2v:As:=Ar [g_0,g_0,g_3] (fun d=>(Amu d.1 d.2.1 d.2.2.1).val) (Fo g_0)
theorem Bgz:Fq 382 A2v:=mkF [Fz 36 Cd,Fz 193 Hr,Fz 194 Lw,Fz 285 Abj] ⟨B5,Hn,K5,Adt,trivial⟩ Tryz.func382 0
def A70:As:=Ar [g_0,g_0,g_3] (fun d=>(Asr d.1 d.2.1 d.2.2.1).val) (Fo g_0)
theorem Bkr:Fq 377 A70:=Da [Fz 36 Cd,Fz 382 A2v,Fz 134 Dc] ⟨B5,Bgz,C0,trivial⟩ ⟨[vS 0 sB,vS 1 sB,vI 2,vS 7 (sO 6000000),vI 8],[],[6000000]⟩ 6000000 [(.exit 0,⟨[vI 2,vS 7 (sO 6000000)],[],[6000000]⟩)] 5 Oi Tryz.func377 0
def Bas:As:=Ar [g_0,g_0,g_0] (fun d=>(Bat d.1 d.2.1 d.2.2.1).val) (Fo g_0)
theorem Bg0:Fq 358 Bas:=Da [Fz 377 A70] ⟨Bkr,trivial⟩ ⟨[vS 2 sB,vS 7 (sO 6000000),vS 28 (sO 6000001),vI 29,vI 30],[],[6000000,6000001]⟩ 6000000 [(.exit 0,⟨[vS 7 (sO 6000000)],[],[6000000]⟩)] 5 W6 Tryz.func358 0
def Oj:As:=Ar [g_3,En] (fun d=>(Ah8 d.1 d.2.1).val) (Fo g_0)
theorem Qp:Fq 238 Oj:=mkF [Fz 287 Tu,Fz 41 Pn,Fz 72 I8,Fz 295 Afv,Fz 193 Hr] ⟨U4,Q4,Jk,Amt,Hn,trivial⟩ Tryz.func238 0
def Bg1:As:=Ar [g_0,g_3,g_0,g_3,g_3,g_3,g_0] (fun d=>(A4y d.1 d.2.1 d.2.2.1 d.2.2.2.1 d.2.2.2.2.1 d.2.2.2.2.2.1 d.2.2.2.2.2.2.1).val) fun r=>([rv En r.1,rv g_1 r.2],[])
theorem Bqq:Fq 332 Bg1:=mkF [Fz 134 Dc,Fz 287 Tu,Fz 41 Pn,Fz 72 I8,Fz 295 Afv,Fz 358 Bas,Fz 238 Oj,Fz 224 Aow] ⟨C0,U4,Q4,Jk,Amt,Bg0,Qp,Asl,trivial⟩ Tryz.func332 0
def A71:As:=Ar [Kb,g_3,g_0,g_3,g_0] (fun d=>(Ass d.1 d.2.1 d.2.2.1 d.2.2.2.1 d.2.2.2.2.1).val) fun r=>([rv Kb r.1,rv En r.2.1,rv g_3 r.2.2],[])
theorem Bks:Fq 299 A71:=mkF [Fz 324 Aft,Fz 311 Ahp,Fz 332 Bg1] ⟨Amh,Aj5,Bqq,trivial⟩ Tryz.func299 0
def Ah9:As:=Ar [F0,g_3,g_0] (fun d=>(Aia d.1 d.2.1 d.2.2.1).val) fun r=>([rv F0 r.1,rv En r.2.1,rv g_3 r.2.2],[])
theorem Awe:Fq 242 Ah9:=mkF [Fz 283 Lv,Fz 265 Mv,Fz 299 A71] ⟨Mh,Ns,Bks,trivial⟩ Tryz.func242 0
def Bau:As:=Ar [F0] (fun d=>(Bav d.1).val) fun r=>([rv F0 r.1,rv En r.2.1,rv g_3 r.2.2],[])
theorem Bg2:Fq 234 Bau:=mkF [Fz 265 Mv,Fz 283 Lv,Fz 293 Ae1,Fz 242 Ah9] ⟨Ns,Mh,Aoz,Awe,trivial⟩ Tryz.func234 0
def Afw:As:=Ar [F0,En] (fun d=>(Ast d.1 d.2.1).val) (Fo Alc)
theorem Amv:Fq 235 Afw:=mkF [Fz 238 Oj,Fz 141 A4s] ⟨Qp,Bc2,trivial⟩ Tryz.func235 0
def A2w:As:=Ar [Iw] (fun d=>(Ac1 d.1).val) fun r=>([rv Iw r.1,rv Abd r.2.1,rv Abe r.2.2],[])
theorem Bg3:Fq 152 A2w:=mkF [Fz 222 Oc,Fz 196 Zf,Fz 234 Bau,Fz 235 Afw] ⟨Qn,Acr,Bg2,Amv,trivial⟩ Tryz.func152 0
def Amw:As:=Ar [g_9,g_3,Iw] (fun d=>(Amx d.1 d.2.1 d.2.2.1).val) fun r=>([rv g_9 r.1,rv g_1 r.2],[])
theorem Ayw:Fq 153 Amw:=mkF [Fz 135 Aco,Fz 77 Aj6,Fz 222 Oc] ⟨Ahm,Asa,Qn,trivial⟩ Tryz.func153 0
def Ao0:As:=Ar [Hk,g_3,Ev,En] (fun d=>(Tx d.1 d.2.1 d.2.2.1 d.2.2.2.1).val) fun r=>([rv Hk r.1,rv Abd r.2.1,rv Abe r.2.2],[])
theorem A72:Fn Tryz.prog 40 (.lend [2]) Ao0:=mkF [Fz 144 Bc5,Fz 145 A2q,Fz 146 Zg,Fz 147 A2t,Fz 148 A2u,Fz 142 Zo,Fz 149 A4w,Fz 150 Aex,Fz 151 Aez,Fz 134 Dc,Fz 73 G5,Fz 152 A2w,Fz 153 Amw] ⟨Bnw,Bgu,Acs,Bgx,Bgy,Aew,Bc8,Aox,Aoy,C0,G8,Bg3,Ayw,trivial⟩ Tryz.func40 1
def A73:As:=Ar [Ma,g_3] (fun d=>(Asu d.1 d.2.1).val) (Fo g_1)
theorem Bkt:Fq 357 A73:=mkF [Fz 342 Ayc,Fz 36 Cd,Fz 364 Ar4] ⟨A7l,B5,A2i,trivial⟩ Tryz.func357 0
def A74:As:=Ar [Ma,g_3] (fun d=>(Asv d.1 d.2.1).val) fun r=>([rv Ma r.1,rv g_1 r.2],[])
theorem Bku:Fq 329 A74:=Da [Fz 353 Amf,Fz 357 A73] ⟨Aya,Bkt,trivial⟩ ⟨[vI 1,vX 2,vX 4,vX 6,vI 7],[(2,[sI,sL]),(4,[sI,sW (.sl 3 [.int .i64]) 6000000]),(6,[sI,sW (.sl 3 [.int .i64]) 6000001])],[6000000,6000001]⟩ 6000000 [(.exit 0,⟨[vI 1,vX 2,vX 4,vX 6],[(2,[sI,sL]),(4,[sI,sW (.sl 3 [.int .i64]) 6000000]),(6,[sI,sW (.sl 3 [.int .i64]) 6000001])],[6000000,6000001]⟩)] 5 Ok Tryz.func329 0
def A75:As:=Ar [g_0,g_3,En] (fun d=>(Asw d.1 d.2.1 d.2.2.1).val) fun r=>([rv g_0 r.1,rv g_1 r.2],[])
theorem Bkv:Fq 330 A75:=mkF [Fz 238 Oj,Fz 224 Aow,Fz 227 Acv,Fz 295 Afv,Fz 358 Bas] ⟨Qp,Asl,Ah4,Amt,Bg0,trivial⟩ Tryz.func330 0
def A76:As:=Ar [Kb,g_3,En] (fun d=>(Asx d.1 d.2.1 d.2.2.1).val) fun r=>([rv Kb r.1,rv g_0 r.2.1,rv g_3 r.2.2],[])
theorem Bkw:Fq 294 A76:=mkF [Fz 324 Aft,Fz 311 Ahp,Fz 238 Oj,Fz 329 A74,Fz 330 A75] ⟨Amh,Aj5,Qp,Bku,Bkv,trivial⟩ Tryz.func294 0
def Ayx:As:=Ar [F0,g_3,En] (fun d=>(Aib d.1 d.2.1 d.2.2.1).val) fun r=>([rv F0 r.1,rv g_0 r.2.1,rv g_3 r.2.2],[])
theorem Bfh:Fq 236 Ayx:=mkF [Fz 283 Lv,Fz 265 Mv,Fz 36 Cd,Fz 41 Pn,Fz 72 I8,Fz 286 A4u,Fz 288 Akc,Fz 294 A76] ⟨Mh,Ns,B5,Q4,Jk,Bc4,Asp,Bkw,trivial⟩ Tryz.func236 0
def A77:As:=Ar [F0,g_3] (fun d=>(Asy d.1 d.2.1).val) fun r=>([rv g_0 r.1,rv g_1 r.2],[])
theorem Bkx:Fq 237 A77:=mkF [Fz 265 Mv,Fz 134 Dc] ⟨Ns,C0,trivial⟩ Tryz.func237 0
def Asz:As:=Ar [H5,Ev] (fun d=>(As0 d.1 d.2.1).val) (Fo g_3)
theorem A2x:Fq 296 Asz:=Da [] trivial ⟨[vX 3,vS 8 (sR (.sl 228 h_4)),vI 9,vI 10],[(3,[sI,sI])],[]⟩ 3000000 [(.ret,⟨[vI 4],[],[]⟩),(.exit 0,⟨[],[],[]⟩)] 2 Sj Tryz.func296 0
def A78:As:=Ar [H5,g_3,Ev,g_0] (fun d=>(Afx d.1 d.2.1 d.2.2.1 d.2.2.2.1).val) fun r=>([rv H5 r.1,rv g_1 r.2],[])
theorem Bky:Fq 239 A78:=mkF [Fz 284 Qm,Fz 296 Asz,Fz 266 Acp,Fz 36 Cd,Fz 73 G5] ⟨Tt,A2x,Ahq,B5,G8,trivial⟩ Tryz.func239 0
def Bg4:As:=Ar [F0] (fun d=>(A4z d.1).val) fun r=>([rv F0 r.1,rv g_1 r.2],[])
theorem Bqr:Fq 331 Bg4:=mkF [Fz 283 Lv,Fz 265 Mv,Fz 232 Zr,Fz 288 Akc] ⟨Mh,Ns,Acx,Asp,trivial⟩ Tryz.func331 0
def Awf:As:=Ar [F0,g_3,g_0] (fun d=>(Ae3 d.1 d.2.1 d.2.2.1).val) fun r=>([rv F0 r.1,rv g_3 r.2],[])
theorem Baw:Fq 297 Awf:=mkF [Fz 283 Lv,Fz 265 Mv,Fz 36 Cd,Fz 293 Ae1,Fz 73 G5,Fz 331 Bg4] ⟨Mh,Ns,B5,Aoz,G8,Bqr,trivial⟩ Tryz.func297 0
def Awg:As:=Ar [Iw,g_3,g_0] (fun d=>(V2 d.1 d.2.1 d.2.2.1).val) fun r=>([rv Iw r.1,rv Abd r.2.1,rv Abe r.2.2],[])
theorem Bax:Fn Tryz.prog 240 (.lend [2]) Awg:=mkF [Fz 297 Awf,Fz 134 Dc,Fz 234 Bau,Fz 235 Afw] ⟨Baw,C0,Bg2,Amv,trivial⟩ Tryz.func240 1
def Adu:As:=Ar [H5,g_3] (fun d=>(Mx d.1 d.2.1).val) (Fo H5)
def My:Fns:=[Fz 284 Qm]
theorem Adv:CfgOk Tryz.prog (D7 My):=Gu Ms Ji (show Kn Tryz.prog My from⟨Tt,trivial⟩)
def Zs:Sk:=⟨[vI 1,vX 4,vX 5,vS 13 (sW (.sl 228 h_4) 4000000),vI 14,vI 15],[(4,[sI,sI,sW (.sl 228 h_4) 4000001]),(5,[sI,sI,sW (.sl 228 h_4) 4000002])],[4000000,4000001,4000002]⟩
def Zt:List (Ex×Sk):=[(.exit 0,⟨[vX 4,vX 5],[(4,[sI,sI,sW (.sl 228 h_4) 4000000]),(5,[sI,sI,sW (.sl 228 h_4) 4000001])],[4000000,4000001]⟩)]
def Sl:G7:=fun i st=>cond (Nat.beq i 3) (lam Zs 4000000 Zt Gd st) <| .fail
theorem Ao1 (cx:Cx) (hp:cx.pin.length<=0):Ek Tryz.prog cx Tryz.f298.ntmps Sl (Bf Tryz.f298 0):=Bg5 Adv hp (Ds (by kernel_rfl:B9 (Bf Tryz.f298 0)=[]) trivial) 13 15 4500000 (by kernel_rfl) (by kernel_rfl) (fun d=>(by kernel_rfl:Bnz (D7 My) 0 Tryz.f298.ntmps Sl (Bf Tryz.f298 0) Zs 4000000 Zt 13 15 4500000 d=Gd d))
theorem Awu:Fq 298 Adu:=Ny Adv Tryz.func298 (by kernel_rfl) (by kernel_rfl) (fun cx b hp hb=>Ds (by kernel_rfl:B9 (Tryz.f298.body.getD .skip)=[Bf Tryz.f298 0]) ⟨Ao1 cx hp,trivial⟩ b hb) (fun d=>(by kernel_rfl:Ia (D7 My) 0 Sl Tryz.f298 .plain (mkA [H5,g_3] d)=(Mx d.1 d.2.1).run fun r=>some ([rv H5 r],[])))
def Bc9:As:=Ar [H5,g_3,Ev,g_0] (fun d=>(Adw d.1 d.2.1 d.2.2.1 d.2.2.2.1).val) fun r=>([rv H5 r.1,rv g_1 r.2],[])
theorem Bn0:Fq 241 Bc9:=mkF [Fz 266 Acp,Fz 36 Cd,Fz 37 Ie,Fz 190 Hl,Fz 284 Qm,Fz 298 Adu,Fz 296 Asz,Fz 134 Dc] ⟨Ahq,B5,H8,Hm,Tt,Awu,A2x,C0,trivial⟩ Tryz.func241 0
def Ayy:As:=Ar [Iw,g_3,Ev,En,g_0] (fun d=>(Zu d.1 d.2.1 d.2.2.1 d.2.2.2.1 d.2.2.2.2.1).val) fun r=>([rv Iw r.1,rv Abd r.2.1,rv Abe r.2.2.1,rv g_1 r.2.2.2],[])
theorem Bfi:Fq 154 Ayy:=mkF [Fz 222 Oc,Fz 196 Zf,Fz 37 Ie,Fz 236 Ayx,Fz 237 A77,Fz 238 Oj,Fz 149 A4w,Fz 134 Dc,Fz 239 A78,(240,(.lend [2]),Awg),Fz 241 Bc9,Fz 242 Ah9,Fz 235 Afw] ⟨Qn,Acr,H8,Bfh,Bkx,Qp,Bc8,C0,Bky,Bax,Bn0,Awe,Amv,trivial⟩ Tryz.func154 0
def Afj:As:=Ar [Hk,g_3,Ev,En] (fun d=>(Nz d.1 d.2.1 d.2.2.1 d.2.2.2.1).val) fun r=>([rv Hk r.1,rv Abd r.2.1,rv Abe r.2.2],[])
theorem Ayz:Fn Tryz.prog 42 (.lend [2]) Afj:=mkF [Fz 146 Zg,Fz 139 A4o,Fz 138 Asf,Fz 154 Ayy,Fz 153 Amw,Fz 134 Dc,Fz 143 Ah2] ⟨Acs,Bc0,A2j,Bfi,Ayw,C0,Awd,trivial⟩ Tryz.func42 1
def A79:As:=Ar [En] (fun d=>(As1 d.1).val) (Fo g_3)
theorem Bkz:Fq 45 A79:=mkF [Fz 74 Ahu] ⟨Av8,trivial⟩ Tryz.func45 0
def Bda:As:=Ar [Nn,Ev,g_3] (fun d=>(Ay0 d.1 d.2.1 d.2.2.1).val) fun r=>([rv Nn r.1,rv g_1 r.2],[])
theorem Bn1:Fq 44 Bda:=mkF [Fz 136 Rf,Fz 137 R9,Fz 78 Qo,Fz 155 Aml,Fz 36 Cd] ⟨We,V0,Tv,Ayj,B5,trivial⟩ Tryz.func44 0
def Ao2:As:=Ar [Hk,g_3,Ev,g_0] (fun d=>(Tz d.1 d.2.1 d.2.2.1 d.2.2.2.1).val) fun r=>([rv Hk r.1,rv Abd r.2.1,rv Abe r.2.2],[])
def T0:Fns:=[Fz 35 Aol,Fz 10 Ahs,Fz 36 Cd,Fz 37 Ie,Fz 38 Bgl,Fz 9 Ahw,(39,(.lend [2]),Ayo),(40,(.lend [2]),Ao0),Fz 41 Pn,(42,(.lend [2]),Afj),Fz 43 A4k,Fz 45 A79,Fz 44 Bda]
theorem Ao3:CfgOk Tryz.prog (D7 T0):=Gu Ms Ji (show Kn Tryz.prog T0 from⟨A7j,Av6,B5,H8,Bqk,Av9,Bfd,A72,Q4,Ayz,Bcv,Bkz,Bn1,trivial⟩)
def Afk:Sk:=⟨[vX 8,vX 11,vS 15 (sW (.sl 95 h_8) 18000000),vS 16 (sW (.sl 85 Aqb) 18000001),vS 94 (sW (.sl 85 Aqb) 18000002),vI 95,vI 96],[(8,[sW (.sl 22 [.sl 5 [.int .u8]]) 18000003,sO 18000004,sO 18000005,sI,sI,sW (.sl 113 Dm) 18000006,sW (.sl 175 h_2) 18000007]),(11,[sW (.sl 22 [.sl 5 [.int .u8]]) 18000008,sO 18000009,sO 18000010,sI,sI,sW (.sl 113 Dm) 18000011,sW (.sl 175 h_2) 18000012])],[18000000,18000001,18000002,18000003,18000004,18000005,18000006,18000007,18000008,18000009,18000010,18000011,18000012]⟩
def Afl:List (Ex×Sk):=[(.exit 1,⟨[vX 8,vX 11,vS 15 (sW (.sl 95 h_8) 18000000),vS 16 (sW (.sl 85 Aqb) 18000001)],[(8,[sW (.sl 22 [.sl 5 [.int .u8]]) 18000002,sO 18000003,sO 18000004,sI,sI,sW (.sl 113 Dm) 18000005,sW (.sl 175 h_2) 18000006]),(11,[sW (.sl 22 [.sl 5 [.int .u8]]) 18000007,sO 18000008,sO 18000009,sI,sI,sW (.sl 113 Dm) 18000010,sW (.sl 175 h_2) 18000011])],[18000000,18000001,18000002,18000003,18000004,18000005,18000006,18000007,18000008,18000009,18000010,18000011]⟩)]
def Abk:G7:=fun i st=>cond (Nat.beq i 17) (lam Afk 18000000 Afl Dx st) <| .fail
theorem Ay1 (cx:Cx) (hp:cx.pin.length<=0):Ek Tryz.prog cx Tryz.f7.ntmps Abk (Bf Tryz.f7 0):=Bg5 Ao3 hp (Ds (by kernel_rfl:B9 (Bf Tryz.f7 0)=[]) trivial) 94 96 18500000 (by kernel_rfl) (by kernel_rfl) (fun d=>(by kernel_rfl:Bnz (D7 T0) 0 Tryz.f7.ntmps Abk (Bf Tryz.f7 0) Afk 18000000 Afl 94 96 18500000 d=Dx d))
theorem A8a:Fq 7 Ao2:=Ny Ao3 Tryz.func7 (by kernel_rfl) (by kernel_rfl) (fun cx b hp hb=>Ds (by kernel_rfl:B9 (Tryz.f7.body.getD .skip)=[Bf Tryz.f7 0]) ⟨Ay1 cx hp,trivial⟩ b hb) (fun d=>(by kernel_rfl:Ia (D7 T0) 0 Abk Tryz.f7 .plain (mkA [Hk,g_3,Ev,g_0] d)=(Tz d.1 d.2.1 d.2.2.1 d.2.2.2.1).run fun r=>some ([rv Hk r.1,rv Abd r.2.1,rv Abe r.2.2],[])))
def A2y:As:=Ar [Hk] (fun d=>(Amy d.1).val) (Fo Hk)
theorem Bg6:Fq 46 A2y:=Da [Fz 156 Alg,Fz 157 Al4] ⟨Aww,Axs,trivial⟩ ⟨[vX 1,vX 2,vX 3,vI 4],[(1,[sR (.sl 22 [.sl 5 [.int .u8]]),sB,sB,sI,sI,sR (.sl 113 Dm),sR (.sl 175 h_2)]),(2,[sW (.sl 22 [.sl 5 [.int .u8]]) 4000000,sO 4000001,sO 4000002,sI,sI,sW (.sl 113 Dm) 4000003,sW (.sl 175 h_2) 4000004]),(3,[sW (.sl 22 [.sl 5 [.int .u8]]) 4000005,sO 4000006,sO 4000007,sI,sI,sW (.sl 113 Dm) 4000008,sW (.sl 175 h_2) 4000009])],[4000000,4000001,4000002,4000003,4000004,4000005,4000006,4000007,4000008,4000009]⟩ 4000000 [(.exit 0,⟨[vX 2,vX 3],[(2,[sW (.sl 22 [.sl 5 [.int .u8]]) 4000000,sO 4000001,sO 4000002,sI,sI,sW (.sl 113 Dm) 4000003,sW (.sl 175 h_2) 4000004]),(3,[sW (.sl 22 [.sl 5 [.int .u8]]) 4000005,sO 4000006,sO 4000007,sI,sI,sW (.sl 113 Dm) 4000008,sW (.sl 175 h_2) 4000009])],[4000000,4000001,4000002,4000003,4000004,4000005,4000006,4000007,4000008,4000009]⟩)] 3 Mk Tryz.func46 0
def Ay2:As:=Ar [g_0] (fun d=>(Aic d.1).val) fun r=>([rv En r.1,rv g_1 r.2],[])
theorem Bfj:Fq 50 Ay2:=mkF [Fz 159 A3y,Fz 128 Za] ⟨Bcg,Aep,trivial⟩ Tryz.func50 0
def A40:As:=Ar [g_9,Ev] (fun d=>(A41 d.1 d.2.1).val) (Fo g_1)
theorem Bdb:Fq 160 A40:=Da [] trivial ⟨[vX 2,vX 3,vI 5],[(2,[sI,sR (.sl 113 Dm)]),(3,[sI,sI])],[]⟩ 3000000 [(.ret,⟨[(4,.v false [(.bool,.nil)])],[],[]⟩),(.exit 0,⟨[],[],[]⟩)] 2 Zv Tryz.func160 0
def A8b:As:=Ar [Hk,Ev,g_3] (fun d=>(As2 d.1 d.2.1 d.2.2.1).val) (Fo g_1)
theorem Bk0:Fq 51 A8b:=mkF [Fz 160 A40,Fz 161 Al9] ⟨Bdb,Axv,trivial⟩ Tryz.func51 0
def Awh:As:=Ar [g_0] (fun d=>(Ae4 d.1).val) (Fo Alc)
theorem Bay:Fq 54 Awh:=mkF [] trivial Tryz.func54 0
def A42:As:=Ar [g_0,g_0] (fun d=>(A43 d.1 d.2.1).val) (Fo Alc)
theorem Bdc:Fq 55 A42:=mkF [] trivial Tryz.func55 0
def Bdd:As:=Ar [g_3,g_3] (fun d=>(Ay3 d.1 d.2.1).val) (Fo g_1)
theorem Bn2:Fq 167 Bdd:=mkF [Fz 47 Cp] ⟨Ch,trivial⟩ Tryz.func167 0
def Bg7:As:=Ar [g_0,g_0] (fun d=>(A44 d.1 d.2.1).val) (Fo g_3)
theorem Bqs:Fq 245 Bg7:=Da [] trivial ⟨[vS 0 sB,vS 1 sB,vI 5,vI 6],[],[]⟩ 6000000 [(.exit 0,⟨[vI 5],[],[]⟩)] 5 Zw Tryz.func245 0
def Ac2:As:=Ar [g_0,g_0] (fun d=>(Amz d.1 d.2.1).val) (Fo g_1)
theorem Aid:Fq 168 Ac2:=mkF [Fz 245 Bg7] ⟨Bqs,trivial⟩ Tryz.func168 0
def Bde:As:=Ar [g_8,g_3,Ev,En] (fun d=>(Ay4 d.1 d.2.1 d.2.2.1 d.2.2.2.1).val) (Fo g_3)
theorem Bn3:Fq 57 Bde:=mkF [Fz 80 Aju,Fz 47 Cp,Fz 48 Ic,Fz 166 K4,Fz 167 Bdd,Fz 53 Ark,Fz 168 Ac2] ⟨Aqm,Ch,H7,Lu,Bn2,Ax3,Aid,trivial⟩ Tryz.func57 0
def A2z:As:=Ar [g_0,En] (fun d=>(Am0 d.1 d.2.1).val) (Fo g_1)
theorem Bg8:Fq 58 A2z:=mkF [Fz 166 K4,Fz 169 Axe,Fz 168 Ac2] ⟨Lu,A6y,Aid,trivial⟩ Tryz.func58 0
def A45:As:=Ar [g_0,g_0,g_0] (fun d=>(A46 d.1 d.2.1 d.2.2.1).val) (Fo Alc)
theorem Bdf:Fq 62 A45:=mkF [] trivial Tryz.func62 0
def A8c:As:=Ar [Kb,g_3,g_0,g_3,g_0] (fun d=>(As3 d.1 d.2.1 d.2.2.1 d.2.2.2.1 d.2.2.2.2.1).val) fun r=>([rv Kb r.1,rv En r.2.1,rv g_3 r.2.2],[])
theorem Bk1:Fq 262 A8c:=mkF [Fz 305 X9,Fz 304 Aqo,Fz 257 Zc,Fz 67 Pk,Fz 244 Afo,Fz 220 Arr] ⟨Acl,Aw9,Acn,Qz,Aln,Ax4,trivial⟩ Tryz.func262 0
def Aie:As:=Ar [F0,g_3,g_0] (fun d=>(Aif d.1 d.2.1 d.2.2.1).val) fun r=>([rv F0 r.1,rv En r.2.1,rv g_3 r.2.2],[])
theorem Awi:Fq 186 Aie:=mkF [Fz 253 Nr,Fz 251 Mt,Fz 262 A8c] ⟨N9,Nq,Bk1,trivial⟩ Tryz.func186 0
def Baz:As:=Ar [F0] (fun d=>(Ba0 d.1).val) fun r=>([rv F0 r.1,rv En r.2.1,rv g_3 r.2.2],[])
theorem Bg9:Fq 178 Baz:=mkF [Fz 251 Mt,Fz 253 Nr,Fz 221 Vz,Fz 186 Aie] ⟨Nq,N9,Abg,Awi,trivial⟩ Tryz.func178 0
def Am1:As:=Ar [F0,En] (fun d=>(Am2 d.1 d.2.1).val) (Fo Alc)
theorem Ay5:Fq 179 Am1:=mkF [Fz 182 Ob,Fz 55 A42] ⟨Ql,Bdc,trivial⟩ Tryz.func179 0
def A20:As:=Ar [Iw] (fun d=>(Am3 d.1).val) fun r=>([rv Iw r.1,rv Abd r.2.1,rv Abe r.2.2],[])
theorem Bha:Fq 66 A20:=mkF [Fz 175 Q2,Fz 173 Tq,Fz 178 Baz,Fz 179 Am1] ⟨R7,Uv,Bg9,Ay5,trivial⟩ Tryz.func66 0
def A8d:As:=Ar [g_0,g_3,En] (fun d=>(As4 d.1 d.2.1 d.2.2.1).val) fun r=>([rv g_0 r.1,rv g_1 r.2],[])
theorem Bk2:Fq 308 A8d:=mkF [Fz 182 Ob,Fz 163 Aok,Fz 168 Ac2,Fz 257 Zc,Fz 282 Bae] ⟨Ql,Aqv,Aid,Acn,Bgj,trivial⟩ Tryz.func308 0
def A8e:As:=Ar [Kb,g_3,En] (fun d=>(As5 d.1 d.2.1 d.2.2.1).val) fun r=>([rv Kb r.1,rv g_0 r.2.1,rv g_3 r.2.2],[])
theorem Bk3:Fq 256 A8e:=mkF [Fz 305 X9,Fz 304 Aqo,Fz 182 Ob,Fz 307 Aq3,Fz 308 A8d,Fz 309 Aq5] ⟨Acl,Aw9,Ql,A19,Bk2,A2a,trivial⟩ Tryz.func256 0
def Ay6:As:=Ar [F0,g_3,En] (fun d=>(Zx d.1 d.2.1 d.2.2.1).val) fun r=>([rv F0 r.1,rv g_0 r.2.1,rv g_3 r.2.2],[])
theorem Bfk:Fq 180 Ay6:=mkF [Fz 253 Nr,Fz 251 Mt,Fz 47 Cp,Fz 166 K4,Fz 67 Pk,Fz 65 Pj,Fz 256 A8e,Fz 246 R0] ⟨N9,Nq,Ch,Lu,Qz,Qy,Bk3,Ts,trivial⟩ Tryz.func180 0
def A8f:As:=Ar [F0,g_3] (fun d=>(As6 d.1 d.2.1).val) fun r=>([rv g_0 r.1,rv g_1 r.2],[])
theorem Bk4:Fq 181 A8f:=mkF [Fz 251 Mt] ⟨Nq,trivial⟩ Tryz.func181 0
def A8g:As:=Ar [H5,Ev] (fun d=>(As7 d.1 d.2.1).val) fun r=>([rv Btc r.1,rv g_1 r.2],[])
theorem Bk5:Fq 258 A8g:=Da [Fz 252 Us,Fz 259 Uz] ⟨Xu,Xz,trivial⟩ ⟨[vX 2,vX 3,vX 4,vI 6],[(2,[sI,sI,sR (.sl 228 h_4)]),(3,[sI,sI]),(4,[sI,sI,sO 5000000,sI])],[5000000]⟩ 5000000 [(.ret,⟨[vX 4,(5,.v false [(.bool,.nil)])],[(4,[sI,sI,sO 5000000,sI])],[5000000]⟩),(.exit 0,⟨[vX 4],[(4,[sI,sI,sO 5000000,sI])],[5000000]⟩)] 4 Ol Tryz.func258 0
def A8h:As:=Ar [H5,g_3,Ev,g_0] (fun d=>(As8 d.1 d.2.1 d.2.2.1 d.2.2.2.1).val) fun r=>([rv H5 r.1,rv g_1 r.2],[])
theorem Bk6:Fq 183 A8h:=Da [Fz 258 A8g,Fz 47 Cp,Fz 65 Pj,Fz 254 U0,Fz 259 Uz] ⟨Bk5,Ch,Qy,X7,Xz,trivial⟩ ⟨[vX 4,vX 6,vX 8,vX 12,vI 13],[(4,[sI,sI,sR (.sl 228 h_4)]),(6,[sI,sI]),(8,[sI,sI,sW (.sl 228 h_4) 7000000]),(12,[sI,sI,sW (.sl 228 h_4) 7000001])],[7000000,7000001]⟩ 7000000 [(.exit 0,⟨[vX 8,vX 12],[(8,[sI,sI,sW (.sl 228 h_4) 7000000]),(12,[sI,sI,sW (.sl 228 h_4) 7000001])],[7000000,7000001]⟩)] 6 Om Tryz.func183 0
def Bhb:As:=Ar [F0] (fun d=>(A47 d.1).val) fun r=>([rv F0 r.1,rv g_1 r.2],[])
theorem Bqt:Fq 260 Bhb:=mkF [Fz 253 Nr,Fz 251 Mt,Fz 176 Pi,Fz 246 R0] ⟨N9,Nq,Qx,Ts,trivial⟩ Tryz.func260 0
def Awj:As:=Ar [F0,g_3,g_0] (fun d=>(Ae5 d.1 d.2.1 d.2.2.1).val) fun r=>([rv F0 r.1,rv g_3 r.2],[])
theorem Ba1:Fq 184 Awj:=mkF [Fz 253 Nr,Fz 251 Mt,Fz 47 Cp,Fz 221 Vz,Fz 65 Pj,Fz 260 Bhb] ⟨N9,Nq,Ch,Abg,Qy,Bqt,trivial⟩ Tryz.func184 0
def Ay7:As:=Ar [Iw,g_3,Ev,En,g_0] (fun d=>(Aig d.1 d.2.1 d.2.2.1 d.2.2.2.1 d.2.2.2.2.1).val) fun r=>([rv Iw r.1,rv Abd r.2.1,rv Abe r.2.2.1,rv g_1 r.2.2.2],[])
theorem Bfl:Fq 68 Ay7:=mkF [Fz 175 Q2,Fz 173 Tq,Fz 48 Ic,Fz 180 Ay6,Fz 181 A8f,Fz 182 Ob,Fz 62 A45,Fz 183 A8h,Fz 184 Awj,Fz 178 Baz,Fz 179 Am1,Fz 185 Axo,Fz 186 Aie] ⟨R7,Uv,H7,Bfk,Bk4,Ql,Bdf,Bk6,Ba1,Bg9,Ay5,A61,Awi,trivial⟩ Tryz.func68 0
def A8i:As:=Ar [En] (fun d=>(As9 d.1).val) (Fo g_3)
theorem Bk7:Fq 188 A8i:=mkF [Fz 128 Za] ⟨Aep,trivial⟩ Tryz.func188 0
def A8j:As:=Ar [Hk,Abd] (fun d=>(Ata d.1 d.2.1).val) fun r=>([rv Abd r.1],[rv Hk r.2])
theorem Bk8:Fn Tryz.prog 69 (.box [3] false false) A8j:=Da [Fz 160 A40,Fz 188 A8i,Fz 187 Axw] ⟨Bdb,Bk7,A62,trivial⟩ ⟨[vX 0,vS 1 (sR (.sl 85 Aqb)),(5,.v false [(.sl 85 Aqb,(.row 4000000))]),vI 6],[(0,[(.sl 22 [.sl 5 [.int .u8]],(.pin 0)),(.sl 5 [.int .u8],(.pin 1)),(.sl 5 [.int .u8],(.pin 2)),sI,sI,(.sl 113 Dm,(.pin 5)),(.sl 175 h_2,.rd)])],[4000000]⟩ 4000000 [(.exit 0,⟨[vX 0,(5,.v false [(.sl 85 Aqb,(.row 4000000))])],[(0,[(.sl 22 [.sl 5 [.int .u8]],(.pin 0)),(.sl 5 [.int .u8],(.pin 1)),(.sl 5 [.int .u8],(.pin 2)),sI,sI,(.sl 113 Dm,(.pin 5)),(.sl 175 h_2,.rd)])],[4000000]⟩)] 3 On Tryz.func69 1
def Ao4:As:=Ar [Hk,g_3,Ev,g_0] (fun d=>(T4 d.1 d.2.1 d.2.2.1 d.2.2.2.1).val) fun r=>([rv Hk r.1,rv Abd r.2.1,rv Abe r.2.2],[])
theorem A8k:Fn Tryz.prog 8 .view Ao4:=mkF [Fz 46 A2y,Fz 11 Xv,Fz 47 Cp,Fz 48 Ic,Fz 49 A4b,Fz 50 Ay2,Fz 51 A8b,Fz 52 A33,Fz 53 Ark,Fz 54 Awh,Fz 56 Ahe,Fz 55 A42,Fz 57 Bde,Fz 58 A2z,Fz 59 Afm,Fz 60 Als,Fz 61 Acm,Fz 62 A45,Fz 63 Aek,Fz 64 Aem,Fz 65 Pj,Fz 66 A20,Fz 67 Pk,Fz 68 Ay7,(69,(.box [3] false false),A8j)] ⟨Bg6,Aeh,Ch,H7,Bco,Bfj,Bk0,Bci,Ax3,Bay,Av0,Bdc,Bn3,Bg8,Alm,Axk,Ahb,Bdf,Aoi,Aoj,Qy,Bha,Qz,Bfl,Bk8,trivial⟩ Tryz.func8 0
def Abl:As:=Ar [g_0,g_0] (fun d=>(A48 d.1 d.2.1).val) (Fo g_1)
theorem Adx:Fq 85 Abl:=mkF [] trivial Tryz.func85 0
def Ay8:As:=Ar [g_6,g_6] (fun d=>(Aih d.1 d.2.1).val) (Fo g_1)
theorem Bfm:Fq 365 Ay8:=Da [] trivial ⟨[vS 0 sL,vS 1 sL,vI 5],[],[]⟩ 5000000 [(.ret,⟨[(4,.v false [(.bool,.nil)])],[],[]⟩),(.exit 0,⟨[],[],[]⟩)] 4 Lj Tryz.func365 0
def A21:As:=Ar [Ma,Ma] (fun d=>(Am4 d.1 d.2.1).val) (Fo g_1)
theorem Bhc:Fq 343 A21:=mkF [Fz 365 Ay8] ⟨Bfm,trivial⟩ Tryz.func343 0
def A8l:As:=Ar [Kb,Kb] (fun d=>(Atb d.1 d.2.1).val) (Fo g_1)
theorem Bk9:Fq 313 A8l:=mkF [Fz 85 Abl,Fz 343 A21] ⟨Adx,Bhc,trivial⟩ Tryz.func313 0
def Ay9:As:=Ar [F0,F0] (fun d=>(Aii d.1 d.2.1).val) (Fo g_1)
theorem Bfn:Fq 267 Ay9:=mkF [Fz 85 Abl,Fz 313 A8l] ⟨Adx,Bk9,trivial⟩ Tryz.func267 0
def Awk:As:=Ar [H5,H5] (fun d=>(Ae6 d.1 d.2.1).val) (Fo g_1)
theorem Ba2:Fq 268 Awk:=Da [Fz 85 Abl] ⟨Adx,trivial⟩ ⟨[vX 2,vX 3,vI 5],[(2,[sI,sI,sR (.sl 228 h_4)]),(3,[sI,sI,sR (.sl 228 h_4)])],[]⟩ 5000000 [(.ret,⟨[(4,.v false [(.bool,.nil)])],[],[]⟩),(.exit 0,⟨[],[],[]⟩)] 4 J5 Tryz.func268 0
def Aza:As:=Ar [Iw,Iw] (fun d=>(Aij d.1 d.2.1).val) (Fo g_1)
theorem Bfo:Fq 197 Aza:=mkF [Fz 85 Abl,Fz 267 Ay9,Fz 268 Awk] ⟨Adx,Bfn,Ba2,trivial⟩ Tryz.func197 0
def A22:As:=Ar [g_9,g_9] (fun d=>(Am5 d.1 d.2.1).val) (Fo g_1)
theorem Bhd:Fq 86 A22:=Da [Fz 197 Aza] ⟨Bfo,trivial⟩ ⟨[vX 2,vX 3,vI 5],[(2,[sI,sR (.sl 113 Dm)]),(3,[sI,sR (.sl 113 Dm)])],[]⟩ 5000000 [(.ret,⟨[(4,.v false [(.bool,.nil)])],[],[]⟩),(.exit 0,⟨[],[],[]⟩)] 4 Ml Tryz.func86 0
def Ake:As:=Ar [Nn,Nn] (fun d=>(Zy d.1 d.2.1).val) (Fo g_1)
theorem A49:Fq 87 Ake:=Da [] trivial ⟨[vS 0 (sR (.sl 175 h_2)),vS 1 (sR (.sl 175 h_2)),vI 5],[],[]⟩ 5000000 [(.ret,⟨[(4,.v false [(.bool,.nil)])],[],[]⟩),(.exit 0,⟨[],[],[]⟩)] 4 Iv Tryz.func87 0
def Ao5:As:=Ar [Hk,Hk] (fun d=>(Abm d.1 d.2.1).val) (Fo g_1)
theorem A8m:Fq 12 Ao5:=Da [Fz 85 Abl,Fz 86 A22,Fz 87 Ake] ⟨Adx,Bhd,A49,trivial⟩ ⟨[vX 2,vX 3,vI 5],[(2,[sR (.sl 22 [.sl 5 [.int .u8]]),sB,sB,sI,sI,sR (.sl 113 Dm),sR (.sl 175 h_2)]),(3,[sR (.sl 22 [.sl 5 [.int .u8]]),sB,sB,sI,sI,sR (.sl 113 Dm),sR (.sl 175 h_2)])],[]⟩ 5000000 [(.ret,⟨[(4,.v false [(.bool,.nil)])],[],[]⟩),(.exit 0,⟨[],[],[]⟩)] 4 I3 Tryz.func12 0
def Azb:As:=Ar [Alc,Alc] (fun d=>(Aik d.1 d.2.1).val) (Fo g_1)
theorem Bfp:Fq 88 Azb:=mkF [Fz 73 G5] ⟨G8,trivial⟩ Tryz.func88 0
def Awl:As:=Ar [Abe,Abe] (fun d=>(Ae7 d.1 d.2.1).val) (Fo g_1)
theorem Ba3:Fq 13 Awl:=Da [Fz 88 Azb] ⟨Bfp,trivial⟩ ⟨[vS 0 (sR (.sl 95 h_8)),vS 1 (sR (.sl 95 h_8)),vI 5],[],[]⟩ 5000000 [(.ret,⟨[(4,.v false [(.bool,.nil)])],[],[]⟩),(.exit 0,⟨[],[],[]⟩)] 4 J6 Tryz.func13 0
end
end Go.Proofs.YthccfdmiejmbaaaGreat

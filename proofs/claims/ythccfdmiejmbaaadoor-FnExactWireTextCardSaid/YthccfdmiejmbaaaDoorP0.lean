/-
  That the functions of the seat answer what the terms of text W say; nothing is assumed.
-/
import Derived.Test.YthccfdmiejmbaaaDoorW
import Derived.Test.YthccfdmiejmbaaaDoorProg
import Derived.KernelRfl
import Derived.Test.YthccfdmiejmbaaaDoorShelf
namespace Go.Proofs.YthccfdmiejmbaaaDoor
open Go.RowKit
set_option linter.unusedVariables false
set_option maxRecDepth 100000
set_option maxHeartbeats 4000000
noncomputable section
abbrev h_0:List Sh:=[.int .i64,.int .i64,.bool,.int .u8]
abbrev h_1:List Sh:=[.sl 5 [.int .u8],.int .i64,.int .i64]
abbrev h_2:List Sh:=[.int .i64,.int .i64,.int .i64,.int .i64,.sl 5 [.int .u8]]
abbrev h_3:List Sh:=[.int .i64,.int .i64,.sl 5 [.int .u8],.sl 5 [.int .u8],.int .i64,.sl 5 [.int .u8],.sl 5 [.int .u8],.int .i64,.int .i64,.sl 5 [.int .u8],.sl 5 [.int .u8]]
abbrev g_0:Bool×List Sh:=(false,[.sl 5 [.int .u8]])
abbrev g_1:Bool×List Sh:=(false,[.int .i64])
abbrev g_2:Bool×List Sh:=(true,h_2)
abbrev g_3:Bool×List Sh:=(true,[.int .i64,.int .i64])
abbrev g_4:Bool×List Sh:=(false,[.bool])
abbrev g_5:Bool×List Sh:=(true,h_3)
abbrev g_6:Bool×List Sh:=(false,[.str])
abbrev g_7:Bool×List Sh:=(true,[.sl 5 [.int .u8]])
abbrev g_8:Bool×List Sh:=(false,[.sl 24 [.sl 5 [.int .u8]]])
def tys:List (Nat×Ty):=[(3,⟨false,[.int .i64],[],false,[]⟩),
 (4,⟨false,[.bool],[],false,[]⟩),
 (5,⟨false,[.int .u8],[],false,[]⟩),
 (9,⟨false,[.str],[],false,[]⟩),
 (23,⟨true,[.int .i64,.int .i64],[(0,1),(1,1)],true,[]⟩),
 (24,⟨false,[.sl 5 [.int .u8]],[],false,[]⟩),
 (26,⟨true,h_2,[(0,2),(2,2),(4,1)],false,[]⟩),
 (29,⟨true,[.int .i64,.int .i64],[(0,1),(1,1)],true,[]⟩),
 (31,⟨true,h_2,[(0,2),(2,2),(4,1)],false,[]⟩),
 (49,⟨true,h_3,[(0,1),(1,1),(2,1),(3,1),(4,1),(5,1),(6,1),(7,1),(8,1),(9,1),(10,1)],false,[]⟩),
 (68,⟨false,[.sl 9 [.str]],[],false,[]⟩),
 (70,⟨false,[.int .u64],[],false,[]⟩),
 (103,⟨false,[.sl 24 [.sl 5 [.int .u8]]],[],false,[]⟩)]
theorem Tp:W3 Tryd.prog tys=true:=by kernel_rfl
theorem W4:Tryd.prog.follows .mixedOrders=true:=by kernel_rfl
abbrev Aaq (C:Fns):Cfg:=⟨P6 tys,Hp C,Gg C,3,4⟩
theorem mkF {f:FuncId} {fn:Func} {kd:Kind} {ps:List (Bool×List Sh)} {R:Type} {T:En ps->Tree R} {rvs:R->List RV×List RV} (C:Fns) (hc:P7 Tryd.prog C) (hf:Tryd.prog.funcs[f]? =some fn) (np:Nat) (hn:(fn.name== "runtime.NumGoroutine")=false:=by kernel_rfl) (hb:fn.body.isSome=true:=by kernel_rfl) (hl:B6 (fn.body.getD .skip)=[]:=by kernel_rfl)
  (he: ∀d,H6 (Aaq C) np (fun _ _=>.fail) fn kd (mkA ps d)=(T d).run fun r=>some (rvs r):=by intro d;kernel_rfl):Fn Tryd.prog f kd (A6 ps (fun d=>(T d).val) rvs):=
 Ab1 (O5 W4 Tp hc) hf hn hb (fun cx b hp hbb=>by rw[hl]at hbb;cases hbb) he
abbrev lpq (r:Nat) (K:Sk) (z:Nat) (X:List (Ex×Sk)) (B:K.den->Option (K.den⊕Ik X)):Hq:=fun i st=>cond (Nat.beq i r) (lam K z X B st) .fail
theorem Js {f:FuncId} {fn:Func} {kd:Kind} {ps:List (Bool×List Sh)} {R:Type} {T:En ps->Tree R} {rvs:R->List RV×List RV} (C:Fns) (hc:P7 Tryd.prog C) (K:Sk) (z:Nat) (X:List (Ex×Sk)) (r:Nat) (B:K.den->Option (K.den⊕Ik X)) (hf:Tryd.prog.funcs[f]? =some fn) (np:Nat) (hn:(fn.name== "runtime.NumGoroutine")=false:=by kernel_rfl) (hb:fn.body.isSome=true:=by kernel_rfl) (h1:B6 (fn.body.getD .skip)=[Nw fn 0]:=by kernel_rfl) (h2:B6 (Nw fn 0)=[]:=by kernel_rfl)
  (hq:lpq r K z X B (Et (Nw fn 0))=lam K z X B:=by kernel_rfl) (hl: ∀d,bod (Aaq C) np fn.ntmps (lpq r K z X B) (Nw fn 0) K z X d=B d:=by intro d;kernel_rfl)
  (he: ∀d,H6 (Aaq C) np (lpq r K z X B) fn kd (mkA ps d)=(T d).run fun r=>some (rvs r):=by intro d;kernel_rfl):Fn Tryd.prog f kd (A6 ps (fun d=>(T d).val) rvs):=
 Ab1 (O5 W4 Tp hc) hf hn hb (fun cx b hp hbb=>Zj h1 ⟨Ab4 (O5 W4 Tp hc) hp (Zj h2 trivial) hq hl,trivial⟩ b hbb) he
abbrev Fq (f:FuncId) (F:A7):Prop:=Fn Tryd.prog f .plain F
abbrev Fz (f:FuncId) (F:A7):FuncId×Kind×A7:=(f,.plain,F)
abbrev Fo (g:Bool×List Sh) (r:dens g.2):List RV×List RV:=([rv g r],[])
abbrev sI:Sh×Tok:=(.int .i64,.nil)
abbrev sB:Sh×Tok:=(.sl 5 [.int .u8],.ro)
abbrev sL:Sh×Tok:=(.sl 3 [.int .i64],.ro)
abbrev sO (n:Nat):Sh×Tok:=(.sl 5 [.int .u8],.own n)
abbrev sR (s:Sh):Sh×Tok:=(s,.ro)
abbrev sW (s:Sh) (n:Nat):Sh×Tok:=(s,.own n)
abbrev vS (n:Nat) (x:Sh×Tok):Nat×PSk:=(n,.v false [x])
abbrev vI (n:Nat):Nat×PSk:=vS n sI
abbrev vX (n:Nat):Nat×PSk:=(n,.box n 0)
abbrev eB:Ex×Sk:=(.ret,⟨[(2,.v false [(.bool,.nil)])],[],[]⟩)
def Oh:A7:=A6 [g_0,g_1] (fun d=>(Jt d.1 d.2.1).val) (Fo g_1)
theorem Tq:Fq 21 Oh:=mkF [] trivial Tryd.func21 0
def P8:A7:=A6 [g_2,g_1] (fun d=>(Kr d.1 d.2.1).val) (Fo g_1)
theorem Vk:Fq 5 P8:=mkF [Fz 21 Oh] ⟨Tq,trivial⟩ Tryd.func5 0
def P9:A7:=A6 [g_3] (fun d=>(Ks d.1).val) (Fo g_3)
theorem Vl:Fq 26 P9:=mkF [] trivial Tryd.func26 0
def Oi:A7:=A6 [g_0] (fun d=>(Ju d.1).val) (Fo g_0)
theorem Tr:Fq 27 Oi:=Js [] trivial ⟨[vS 0 sB,vS 3 (sO 4000000),vI 4],[],[4000000]⟩ 4000000 [(.exit 0,⟨[vS 3 (sO 4000000)],[],[4000000]⟩)] 3 Ee Tryd.func27 0
def Qa:A7:=A6 [g_2] (fun d=>(Kt d.1).val) (Fo g_2)
theorem Vm:Fq 7 Qa:=mkF [Fz 26 P9,Fz 27 Oi] ⟨Vl,Tr,trivial⟩ Tryd.func7 0
def Il:A7:=A6 [g_1,g_1,g_1] (fun d=>(O6 d.1 d.2.1 d.2.2.1).val) (Fo g_4)
theorem Jd:Fq 44 Il:=mkF [] trivial Tryd.func44 0
def Ku:A7:=A6 [g_3] (fun d=>(Kv d.1).val) (Fo g_4)
theorem Oj:Fq 41 Ku:=mkF [Fz 44 Il] ⟨Jd,trivial⟩ Tryd.func41 0
def Qb:A7:=A6 [g_2] (fun d=>(Kw d.1).val) (Fo g_4)
theorem Vn:Fq 19 Qb:=mkF [Fz 41 Ku] ⟨Oj,trivial⟩ Tryd.func19 0
def Ts:A7:=A6 [g_0,g_1,g_1] (fun d=>(O7 d.1 d.2.1 d.2.2.1).val) fun r=>([rv g_1 r.1,rv g_1 r.2.1,rv g_4 r.2.2],[])
theorem Zk:Fq 42 Ts:=Js [] trivial ⟨[vS 0 sB,vI 1,vI 2,vI 9,vI 10],[],[]⟩ 6000000 [(.exit 0,⟨[vI 1,vI 2,vI 9],[],[]⟩)] 5 Fd Tryd.func42 0
def Qc:A7:=A6 [g_1] (fun d=>(Kx d.1).val) (Fo g_4)
theorem Vo:Fq 77 Qc:=mkF [Fz 44 Il] ⟨Jd,trivial⟩ Tryd.func77 0
def Qd:A7:=A6 [g_1,g_1] (fun d=>(Ky d.1 d.2.1).val) (Fo g_4)
theorem Vp:Fq 78 Qd:=mkF [] trivial Tryd.func78 0
def Ok:A7:=A6 [g_5] (fun d=>(Jv d.1).val) (Fo g_4)
theorem Tt:Fq 61 Ok:=mkF [Fz 77 Qc,Fz 44 Il,Fz 78 Qd] ⟨Vo,Jd,Vp,trivial⟩ Tryd.func61 0
def Tu:A7:=A6 [g_0,g_1,g_1] (fun d=>(O8 d.1 d.2.1 d.2.2.1).val) (Fo g_0)
theorem Zl:Fq 62 Tu:=Js [] trivial ⟨[vI 1,vS 7 (sO 6000000),vI 8],[],[6000000]⟩ 6000000 [(.exit 0,⟨[vS 7 (sO 6000000)],[],[6000000]⟩)] 5 Gi Tryd.func62 0
def Mn:A7:=A6 [g_5] (fun d=>(Im d.1).val) (Fo g_0)
theorem S8:Fq 43 Mn:=Js [Fz 61 Ok,Fz 62 Tu] ⟨Tt,Zl,trivial⟩ ⟨[vS 3 (sO 11000000),vI 4],[],[11000000]⟩ 11000000 [(.exit 1,⟨[vS 3 (sO 11000000)],[],[11000000]⟩)] 10 Cr Tryd.func43 0
def Mo:A7:=A6 [g_0] (fun d=>(Ip d.1).val) fun r=>([rv g_5 r.1,rv g_4 r.2],[])
theorem S9:Fq 22 Mo:=mkF [Fz 42 Ts,Fz 43 Mn] ⟨Zk,S8,trivial⟩ Tryd.func22 0
def Mp:A7:=A6 [g_1] (fun d=>(Gj d.1).val) (Fo g_6)
theorem Ta:Fq 23 Mp:=mkF [Fz 44 Il] ⟨Jd,trivial⟩ Tryd.func23 0
def Mq:A7:=A6 [g_1] (fun d=>(Mr d.1).val) (Fo g_6)
theorem Qe:Fq 25 Mq:=Js [] trivial ⟨[vI 0,(3,.v false [(.str,.nil)])],[],[]⟩ 5000000 [(.exit 0,⟨[(3,.v false [(.str,.nil)])],[],[]⟩)] 4 Dk Tryd.func25 0
def Ms:A7:=A6 [g_3] (fun d=>(Iq d.1).val) (Fo g_6)
theorem Tb:Fq 24 Ms:=mkF [Fz 41 Ku,Fz 25 Mq] ⟨Oj,Qe,trivial⟩ Tryd.func24 0
def Mt:A7:=A6 [g_2] (fun d=>(Ir d.1).val) (Fo g_6)
theorem Tc:Fq 6 Mt:=mkF [Fz 19 Qb,Fz 22 Mo,Fz 23 Mp,Fz 24 Ms,Fz 25 Mq] ⟨Vn,S9,Ta,Tb,Qe,trivial⟩ Tryd.func6 0
def Gk:A7:=A6 [g_1,g_1,g_1] (fun d=>(Kz d.1 d.2.1 d.2.2.1).val) (Fo g_4)
theorem Hr:Fq 51 Gk:=mkF [] trivial Tryd.func51 0
def K0:A7:=A6 [g_3] (fun d=>(K1 d.1).val) (Fo g_4)
theorem Ol:Fq 40 K0:=mkF [Fz 51 Gk] ⟨Hr,trivial⟩ Tryd.func40 0
def Qf:A7:=A6 [g_2] (fun d=>(K2 d.1).val) (Fo g_4)
theorem Vq:Fq 18 Qf:=mkF [Fz 40 K0] ⟨Ol,trivial⟩ Tryd.func18 0
def Sf:A7:=A6 [g_0] (fun d=>(Mu d.1).val) (Fo g_0)
theorem W5:Fq 59 Sf:=mkF [] trivial Tryd.func59 0
def Mv:A7:=A6 [g_7,g_1] (fun d=>(Mw d.1 d.2.1).val) fun r=>([rv g_0 r.1],[rv g_7 r.2])
theorem Qg:Fn Tryd.prog 46 (.box [3] false true) Mv:=mkF [Fz 59 Sf] ⟨W5,trivial⟩ Tryd.func46 1
def Wa:A7:=A6 [g_0,g_1,g_1] (fun d=>(Rd d.1 d.2.1 d.2.2.1).val) fun r=>([rv g_0 r.1,rv g_4 r.2],[])
theorem Aar:Fq 79 Wa:=mkF [] trivial Tryd.func79 0
def Tv:A7:=A6 [g_0,g_1,g_1] (fun d=>(O9 d.1 d.2.1 d.2.2.1).val) fun r=>([rv g_1 r.1,rv g_1 r.2.1,rv g_4 r.2.2],[])
theorem Zm:Fq 63 Tv:=Js [Fz 79 Wa] ⟨Aar,trivial⟩ ⟨[vI 1,vI 2,vI 11,vS 29 (sO 9000000),vI 30,vI 31],[],[9000000]⟩ 9000000 [(.exit 0,⟨[vI 1,vI 2,vI 11],[],[]⟩)] 8 Fe Tryd.func63 0
def Qh:A7:=A6 [g_7,g_1] (fun d=>(K3 d.1 d.2.1).val) fun r=>([rv g_1 r.1],[rv g_7 r.2])
theorem Vr:Fn Tryd.prog 45 (.box [3] false true) Qh:=mkF [(46,(.box [3] false true),Mv),Fz 63 Tv] ⟨Qg,Zm,trivial⟩ Tryd.func45 1
def K4:A7:=A6 [g_1] (fun d=>(K5 d.1).val) (Fo g_4)
theorem Om:Fq 47 K4:=mkF [Fz 51 Gk] ⟨Hr,trivial⟩ Tryd.func47 0
def On:A7:=A6 [g_0] (fun d=>(Oo d.1).val) (Fo g_4)
theorem Tw:Fq 64 On:=mkF [] trivial Tryd.func64 0
def Qi:A7:=A6 [g_1,g_1] (fun d=>(K6 d.1 d.2.1).val) (Fo g_4)
theorem Vs:Fq 65 Qi:=mkF [] trivial Tryd.func65 0
def H1:A7:=A6 [g_0,g_0] (fun d=>(Me d.1 d.2.1).val) (Fo g_4)
theorem J9:Fq 49 H1:=mkF [] trivial Tryd.func49 0
def Mf:A7:=A6 [g_5,g_5] (fun d=>(H2 d.1 d.2.1).val) (Fo g_4)
theorem Re:Fq 66 Mf:=mkF [Fz 49 H1] ⟨J9,trivial⟩ Tryd.func66 0
def Jw:A7:=A6 [g_5] (fun d=>(Jx d.1).val) (Fo g_4)
theorem Mx:Fq 48 Jw:=mkF [Fz 51 Gk,Fz 64 On,Fz 47 K4,Fz 65 Qi,Fz 66 Mf] ⟨Hr,Tw,Om,Vs,Re,trivial⟩ Tryd.func48 0
def Qj:A7:=A6 [g_8] (fun d=>(K7 d.1).val) (Fo g_0)
theorem Vt:Fq 67 Qj:=Js [] trivial ⟨[vS 3 (sO 4000000),vS 7 (sR (.sl 24 [.sl 5 [.int .u8]])),vI 8,vI 9],[],[4000000]⟩ 4000000 [(.exit 0,⟨[vS 3 (sO 4000000)],[],[4000000]⟩)] 3 Do Tryd.func67 0
def Tx:A7:=A6 [g_0,g_1,g_1] (fun d=>(Tz d.1 d.2.1 d.2.2.1).val) (Fo g_0)
theorem Zn:Fq 68 Tx:=Js [] trivial ⟨[vI 1,vS 7 (sO 6000000),vI 8],[],[6000000]⟩ 6000000 [(.exit 0,⟨[vS 7 (sO 6000000)],[],[6000000]⟩)] 5 Qk Tryd.func68 0
def My:A7:=A6 [g_5] (fun d=>(Is d.1).val) (Fo g_0)
theorem Td:Fq 50 My:=mkF [Fz 48 Jw,Fz 67 Qj,Fz 68 Tx] ⟨Mx,Vt,Zn,trivial⟩ Tryd.func50 0
def Mz:A7:=A6 [g_0] (fun d=>(It d.1).val) fun r=>([rv g_5 r.1,rv g_4 r.2],[])
theorem Te:Fq 28 Mz:=mkF [(45,(.box [3] false true),Qh),(46,(.box [3] false true),Mv),Fz 47 K4,Fz 48 Jw,Fz 50 My,Fz 49 H1] ⟨Vr,Qg,Om,Mx,Td,J9,trivial⟩ Tryd.func28 0
def M0:A7:=A6 [g_1] (fun d=>(Iu d.1).val) (Fo g_6)
theorem Tf:Fq 29 M0:=mkF [Fz 51 Gk] ⟨Hr,trivial⟩ Tryd.func29 0
def Rf:List (Bool×List Sh):=[(false,[.int .i64])]
def Rg (r:ByteArray×Unit):List RV×List RV:=([rv (false,[.str]) r],[])
def Hc:A7:=A6 Rf (fun d=>(Ka d.1).val) Rg
theorem Je:Fq 31 Hc:=
 ⟨Zo (by kernel_rfl) (List.mem_singleton.2 rfl) (fun n w h0 h1 ht=>(Any.strconv_Itoa Tryd.laysM171 n h0 h1 w ht).mono fun e w' ⟨h,k,os,hw⟩=>⟨h,hw▸Ql⟩) (fun d=>rfl),Tryd.f31,Tryd.func31,by kernel_rfl,by kernel_rfl⟩

def Rh:List (Bool×List Sh):=[(false,[.sl 9 [.str]]),(false,[.str])]
def Ri (r:ByteArray×Unit):List RV×List RV:=([rv (false,[.str]) r],[])
def Kb:A7:=A6 Rh (fun d=>(Hd d.1 d.2.1).val) Ri
theorem Qm:Fq 52 Kb:=
 ⟨Zp (fun a c sep w=>(Tryd.strings_Join_none a c sep w).mono fun e w' ⟨h,hw⟩=>⟨h,hw▸As.refl _⟩) (fun bk o c xs sep w h1 h2 h3 h4 h5=>(Tryd.strings_Join bk o c xs sep w h1 h2 h3 h4 h5).mono fun e w' ⟨h,hw⟩=>⟨h,As.of_below hw⟩) (fun d=>rfl),Tryd.f52,Tryd.func52,by kernel_rfl,by kernel_rfl⟩

def M4:A7:=A6 [g_3] (fun d=>(Iv d.1).val) (Fo g_6)
theorem Tg:Fq 30 M4:=Js [Fz 40 K0,Fz 31 Hc,Fz 52 Kb] ⟨Ol,Je,Qm,trivial⟩ ⟨[vX 1,vS 3 (sW (.sl 9 [.str]) 6000000),vI 4],[(1,[sI,sI])],[6000000]⟩ 6000000 [(.exit 0,⟨[vX 1,vS 3 (sW (.sl 9 [.str]) 6000000)],[(1,[sI,sI])],[6000000]⟩)] 5 Bx Tryd.func30 0
def M5:A7:=A6 [g_2] (fun d=>(Iw d.1).val) (Fo g_6)
theorem Th:Fq 8 M5:=mkF [Fz 18 Qf,Fz 28 Mz,Fz 29 M0,Fz 30 M4,Fz 31 Hc] ⟨Vq,Te,Tf,Tg,Je,trivial⟩ Tryd.func8 0
def Qn:A7:=A6 [g_3,g_3] (fun d=>(K8 d.1 d.2.1).val) (Fo g_4)
theorem Vu:Fq 32 Qn:=mkF [] trivial Tryd.func32 0
def Oq:A7:=A6 [g_0,g_0] (fun d=>(Jy d.1 d.2.1).val) (Fo g_4)
theorem T0:Fq 33 Oq:=Js [] trivial ⟨[vS 0 sB,vS 1 sB,vI 5],[],[]⟩ 5000000 [(.ret,⟨[(4,.v false [(.bool,.nil)])],[],[]⟩),(.exit 0,⟨[],[],[]⟩)] 4 Eg Tryd.func33 0
def Qo:A7:=A6 [g_2,g_2] (fun d=>(K9 d.1 d.2.1).val) (Fo g_4)
theorem Vv:Fq 9 Qo:=mkF [Fz 32 Qn,Fz 33 Oq] ⟨Vu,T0,trivial⟩ Tryd.func9 0
end
end Go.Proofs.YthccfdmiejmbaaaDoor

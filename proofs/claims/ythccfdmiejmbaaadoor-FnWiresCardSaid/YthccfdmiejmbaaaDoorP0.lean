/-
  That the functions of the seat answer what the terms of text W say; nothing is assumed.
-/
import Derived.Test.YthccfdmiejmbaaaDoorW
import Derived.Test.YthccfdmiejmbaaaDoorProg
import Derived.KernelRfl
import Derived.Test.YthccfdmiejmbaaaDoorShelf
namespace Go.Proofs.YthccfdmiejmbaaaDoor
open Go.RowKit
set_option linter.unusedVariables false
set_option maxRecDepth 100000
set_option maxHeartbeats 4000000
noncomputable section
abbrev h_0:List Sh:=[.int .i64,.int .i64,.bool,.int .u8]
abbrev h_1:List Sh:=[.sl 5 [.int .u8],.int .i64,.int .i64]
abbrev h_2:List Sh:=[.int .i64,.int .i64,.int .i64,.int .i64,.sl 5 [.int .u8]]
abbrev h_3:List Sh:=[.int .i64,.int .i64,.sl 5 [.int .u8],.sl 5 [.int .u8],.int .i64,.sl 5 [.int .u8],.sl 5 [.int .u8],.int .i64,.int .i64,.sl 5 [.int .u8],.sl 5 [.int .u8]]
abbrev g_0:Bool×List Sh:=(false,[.sl 5 [.int .u8]])
abbrev g_1:Bool×List Sh:=(false,[.bool])
abbrev g_2:Bool×List Sh:=(true,h_1)
abbrev g_3:Bool×List Sh:=(false,[.int .i64])
abbrev g_4:Bool×List Sh:=(true,[.int .i64,.int .i64])
abbrev g_5:Bool×List Sh:=(false,[.sl 3 [.int .i64]])
abbrev g_6:Bool×List Sh:=(true,h_3)
abbrev g_7:Bool×List Sh:=(true,h_2)
abbrev g_8:Bool×List Sh:=(false,[.sl 31 h_2])
abbrev g_9:Bool×List Sh:=(true,[.sl 5 [.int .u8]])
abbrev Ail:Bool×List Sh:=(false,[.sl 24 [.sl 5 [.int .u8]]])
abbrev Sf:Bool×List Sh:=(false,[.str])
def tys:List (Nat×Ty):=[(3,⟨false,[.int .i64],[],false,[]⟩),
 (4,⟨false,[.bool],[],false,[]⟩),
 (5,⟨false,[.int .u8],[],false,[]⟩),
 (9,⟨false,[.str],[],false,[]⟩),
 (24,⟨false,[.sl 5 [.int .u8]],[],false,[]⟩),
 (29,⟨true,[.int .i64,.int .i64],[(0,1),(1,1)],true,[]⟩),
 (31,⟨true,h_2,[(0,2),(2,2),(4,1)],false,[]⟩),
 (36,⟨false,[.sl 31 h_2],[],false,[]⟩),
 (49,⟨true,h_3,[(0,1),(1,1),(2,1),(3,1),(4,1),(5,1),(6,1),(7,1),(8,1),(9,1),(10,1)],false,[]⟩),
 (68,⟨false,[.sl 9 [.str]],[],false,[]⟩),
 (70,⟨false,[.int .u64],[],false,[]⟩),
 (78,⟨true,h_1,[(0,1),(1,1),(2,1)],false,[]⟩),
 (81,⟨false,[.sl 3 [.int .i64]],[],false,[]⟩),
 (103,⟨false,[.sl 24 [.sl 5 [.int .u8]]],[],false,[]⟩)]
theorem Pn:Acd Tryd.prog tys=true:=by kernel_rfl
theorem Tq:Tryd.prog.follows .mixedOrders=true:=by kernel_rfl
abbrev Lx (C:Fns):Cfg:=⟨Tr tys,Jc C,H1 C,3,4⟩
theorem mkF {f:FuncId} {fn:Func} {kd:Kind} {ps:List (Bool×List Sh)} {R:Type} {T:Dt ps->Tree R} {rvs:R->List RV×List RV} (C:Fns) (hc:Ni Tryd.prog C) (hf:Tryd.prog.funcs[f]? =some fn) (np:Nat) (hn:(fn.name== "runtime.NumGoroutine")=false:=by kernel_rfl) (hb:fn.body.isSome=true:=by kernel_rfl) (hl:Bv (fn.body.getD .skip)=[]:=by kernel_rfl)
  (he: ∀d,H2 (Lx C) np (fun _ _=>.fail) fn kd (mkA ps d)=(T d).run fun r=>some (rvs r):=by intro d;kernel_rfl):Fn Tryd.prog f kd (Az ps (fun d=>(T d).val) rvs):=
 Xr (Kj Tq Pn hc) hf hn hb (fun cx b hp hbb=>by rw[hl]at hbb;cases hbb) he
abbrev lpq (r:Nat) (K:Sk) (z:Nat) (X:List (Ex×Sk)) (B:K.den->Option (K.den⊕Hf X)):Ew:=fun i st=>cond (Nat.beq i r) (lam K z X B st) .fail
theorem Hg {f:FuncId} {fn:Func} {kd:Kind} {ps:List (Bool×List Sh)} {R:Type} {T:Dt ps->Tree R} {rvs:R->List RV×List RV} (C:Fns) (hc:Ni Tryd.prog C) (K:Sk) (z:Nat) (X:List (Ex×Sk)) (r:Nat) (B:K.den->Option (K.den⊕Hf X)) (hf:Tryd.prog.funcs[f]? =some fn) (np:Nat) (hn:(fn.name== "runtime.NumGoroutine")=false:=by kernel_rfl) (hb:fn.body.isSome=true:=by kernel_rfl) (h1:Bv (fn.body.getD .skip)=[Cy fn 0]:=by kernel_rfl) (h2:Bv (Cy fn 0)=[]:=by kernel_rfl)
  (hq:lpq r K z X B (Fe (Cy fn 0))=lam K z X B:=by kernel_rfl) (hl: ∀d,bod (Lx C) np fn.ntmps (lpq r K z X B) (Cy fn 0) K z X d=B d:=by intro d;kernel_rfl)
  (he: ∀d,H2 (Lx C) np (lpq r K z X B) fn kd (mkA ps d)=(T d).run fun r=>some (rvs r):=by intro d;kernel_rfl):Fn Tryd.prog f kd (Az ps (fun d=>(T d).val) rvs):=
 Xr (Kj Tq Pn hc) hf hn hb (fun cx b hp hbb=>Kk h1 ⟨U5 (Kj Tq Pn hc) hp (Kk h2 trivial) hq hl,trivial⟩ b hbb) he
abbrev Fq (f:FuncId) (F:A3):Prop:=Fn Tryd.prog f .plain F
abbrev Fz (f:FuncId) (F:A3):FuncId×Kind×A3:=(f,.plain,F)
abbrev pA (f:FuncId) (F:A3):Prop:=Fn Tryd.prog f (.box [3] true true) F
abbrev qA (f:FuncId) (F:A3):FuncId×Kind×A3:=(f,.box [3] true true,F)
abbrev Fo (g:Bool×List Sh) (r:dens g.2):List RV×List RV:=([rv g r],[])
abbrev sI:Sh×Tok:=(.int .i64,.nil)
abbrev sB:Sh×Tok:=(.sl 5 [.int .u8],.ro)
abbrev sL:Sh×Tok:=(.sl 3 [.int .i64],.ro)
abbrev sO (n:Nat):Sh×Tok:=(.sl 5 [.int .u8],.own n)
abbrev sR (s:Sh):Sh×Tok:=(s,.ro)
abbrev sW (s:Sh) (n:Nat):Sh×Tok:=(s,.own n)
abbrev vS (n:Nat) (x:Sh×Tok):Nat×PSk:=(n,.v false [x])
abbrev vI (n:Nat):Nat×PSk:=vS n sI
abbrev vX (n:Nat):Nat×PSk:=(n,.box n 0)
abbrev eB:Ex×Sk:=(.ret,⟨[(2,.v false [(.bool,.nil)])],[],[]⟩)
def Abf:A3:=Az [g_0] (fun d=>(Abg d.1).val) (Fo g_1)
theorem Ae9:Fq 10 Abf:=mkF [] trivial Tryd.func10 0
def Po:A3:=Az [g_0] (fun d=>(Pp d.1).val) (Fo g_2)
theorem Ts:Fn Tryd.prog 34 .ret Po:=Hg [] trivial ⟨[vS 0 sB,vI 3,vI 4],[],[]⟩ 4000000 [(.exit 0,⟨[vS 0 sB,vI 3],[],[]⟩)] 3 Jd Tryd.func34 0
def J4:A3:=Az [g_2] (fun d=>(Nj d.1).val) fun r=>([rv g_3 r.1],[rv g_2 r.2])
theorem Ly:pA 60 J4:=mkF [] trivial Tryd.func60 1
def Cs:A3:=Az [g_2,g_3] (fun d=>(Lz d.1 d.2.1).val) fun r=>([rv g_3 r.1],[rv g_2 r.2])
theorem Ct:pA 39 Cs:=mkF [qA 60 J4] ⟨Ly,trivial⟩ Tryd.func39 1
def J5:A3:=Az [g_2,g_3] (fun d=>(Nk d.1 d.2.1).val) fun r=>([rv g_1 r.1],[rv g_2 r.2])
theorem L0:pA 55 J5:=mkF [qA 39 Cs] ⟨Ct,trivial⟩ Tryd.func55 1
def Iy:A3:=Az [g_3,g_3,g_3] (fun d=>(Si d.1 d.2.1 d.2.2.1).val) (Fo g_1)
theorem Jp:Fq 44 Iy:=mkF [] trivial Tryd.func44 0
def Nl:A3:=Az [g_3] (fun d=>(Sj d.1).val) (Fo g_4)
theorem Pq:Fq 38 Nl:=mkF [Fz 44 Iy] ⟨Jp,trivial⟩ Tryd.func38 0
def Hp:A3:=Az [g_2,g_5] (fun d=>(Pr d.1 d.2.1).val) fun r=>([rv g_3 r.1],[rv g_2 r.2])
theorem H3:pA 56 Hp:=mkF [qA 39 Cs] ⟨Ct,trivial⟩ Tryd.func56 1
def Je:A3:=Az [g_2,g_3] (fun d=>(L3 d.1 d.2.1).val) fun r=>([rv g_0 r.1],[rv g_2 r.2])
theorem Kl:pA 58 Je:=Hg [qA 60 J4] ⟨Ly,trivial⟩ ⟨[vX 0,vI 1,vS 5 (sO 4000000),vI 6],[(0,[(.sl 5 [.int .u8],(.pin 0)),sI,sI])],[4000000]⟩ 4000000 [(.exit 0,⟨[vX 0,vS 5 (sO 4000000)],[(0,[(.sl 5 [.int .u8],(.pin 0)),sI,sI])],[4000000]⟩)] 3 Ff Tryd.func58 1
def Tt:A3:=Az [g_2] (fun d=>(Nm d.1).val) fun r=>([rv g_6 r.1],[rv g_2 r.2])
theorem Aas:pA 74 Tt:=mkF [qA 39 Cs,qA 58 Je,qA 56 Hp] ⟨Ct,Kl,H3,trivial⟩ Tryd.func74 1
def Tu:A3:=Az [g_3] (fun d=>(Nn d.1).val) (Fo g_1)
theorem Aat:Fq 77 Tu:=mkF [Fz 44 Iy] ⟨Jp,trivial⟩ Tryd.func77 0
def Tv:A3:=Az [g_3,g_3] (fun d=>(No d.1 d.2.1).val) (Fo g_1)
theorem Aau:Fq 78 Tv:=mkF [] trivial Tryd.func78 0
def Ro:A3:=Az [g_6] (fun d=>(L4 d.1).val) (Fo g_1)
theorem Xx:Fq 61 Ro:=mkF [Fz 77 Tu,Fz 44 Iy,Fz 78 Tv] ⟨Aat,Jp,Aau,trivial⟩ Tryd.func61 0
def Xy:A3:=Az [g_0,g_3,g_3] (fun d=>(Sl d.1 d.2.1 d.2.2.1).val) (Fo g_0)
theorem Adt:Fq 62 Xy:=Hg [] trivial ⟨[vI 1,vS 7 (sO 6000000),vI 8],[],[6000000]⟩ 6000000 [(.exit 0,⟨[vS 7 (sO 6000000)],[],[6000000]⟩)] 5 H4 Tryd.func62 0
def Km:A3:=Az [g_6] (fun d=>(Kn d.1).val) (Fo g_0)
theorem O9:Fq 43 Km:=Hg [Fz 61 Ro,Fz 62 Xy] ⟨Xx,Adt,trivial⟩ ⟨[vS 3 (sO 11000000),vI 4],[],[11000000]⟩ 11000000 [(.exit 1,⟨[vS 3 (sO 11000000)],[],[11000000]⟩)] 10 Dc Tryd.func43 0
def Ps:A3:=Az [g_4,g_4,g_6] (fun d=>(Ko d.1 d.2.1 d.2.2.1).val) (Fo g_7)
theorem Xf:Fq 73 Ps:=mkF [Fz 43 Km] ⟨O9,trivial⟩ Tryd.func73 0
def L5:A3:=Az [g_2] (fun d=>(L6 d.1).val) fun r=>([rv g_7 r.1],[rv g_2 r.2])
theorem Pt:pA 54 L5:=mkF [qA 55 J5,qA 39 Cs,Fz 38 Nl,qA 56 Hp,qA 58 Je,qA 74 Tt,Fz 73 Ps] ⟨L0,Ct,Pq,H3,Kl,Aas,Xf,trivial⟩ Tryd.func54 1
def Tw:A3:=Az [g_2] (fun d=>(Np d.1).val) fun r=>([rv g_4 r.1],[rv g_2 r.2])
theorem Aav:pA 75 Tw:=mkF [qA 55 J5,qA 39 Cs,qA 60 J4,Fz 38 Nl] ⟨L0,Ct,Ly,Pq,trivial⟩ Tryd.func75 1
def Wi:A3:=Az [g_2] (fun d=>(Pu d.1).val) fun r=>([rv g_3 r.1],[rv g_2 r.2])
theorem Ace:pA 76 Wi:=mkF [qA 56 Hp] ⟨H3,trivial⟩ Tryd.func76 1
def Wj:A3:=Az [g_2] (fun d=>(Pv d.1).val) fun r=>([rv g_4 r.1],[rv g_2 r.2])
theorem Acf:pA 57 Wj:=mkF [qA 75 Tw,qA 39 Cs,qA 76 Wi,qA 56 Hp] ⟨Aav,Ct,Ace,H3,trivial⟩ Tryd.func57 1
def Nq:A3:=Az [g_2] (fun d=>(Nr d.1).val) fun r=>([rv g_7 r.1],[rv g_2 r.2])
theorem Rp:pA 36 Nq:=mkF [qA 54 L5,qA 39 Cs,qA 57 Wj,qA 58 Je] ⟨Pt,Ct,Acf,Kl,trivial⟩ Tryd.func36 1
def L7:A3:=Az [g_2,g_3] (fun d=>(Jf d.1 d.2.1).val) fun r=>([rv g_8 r.1],[rv g_2 r.2])
def Gx:Fns:=[qA 39 Cs,qA 54 L5,qA 55 J5,qA 36 Nq,qA 56 Hp]
theorem L8:CfgOk Tryd.prog (Lx Gx):=Kj Tq Pn (show Ni Tryd.prog Gx from⟨Ct,Pt,L0,Rp,H3,trivial⟩)
def Mt:Sk:=⟨[vX 0,(5,.v false [(.sl 31 h_2,(.row 12000000))]),vX 7,vI 8],[(0,[(.sl 5 [.int .u8],(.pin 0)),sI,sI]),(7,[sI,sI,sI,sI,(.sl 5 [.int .u8],.rd)])],[12000000]⟩
def Mu:List (Ex×Sk):=[(.exit 2,⟨[vX 0,(5,.v false [(.sl 31 h_2,(.row 12000000))])],[(0,[(.sl 5 [.int .u8],(.pin 0)),sI,sI])],[12000000]⟩)]
def Pa:Sk:=⟨[vX 0,vS 5 (sW (.sl 31 h_2) 4000000),vI 6],[(0,[(.sl 5 [.int .u8],(.pin 0)),sI,sI])],[4000000]⟩
def Pb:List (Ex×Sk):=[(.exit 0,⟨[vX 0,vS 5 (sW (.sl 31 h_2) 4000000)],[(0,[(.sl 5 [.int .u8],(.pin 0)),sI,sI])],[4000000]⟩)]
def Gy:Ew:=fun i st=>cond (Nat.beq i 3) (lam Pa 4000000 Pb Fg st) <| cond (Nat.beq i 11) (lam Mt 12000000 Mu Dq st) <| .fail
theorem U6 (cx:Cx) (hp:cx.pin.length<=1):Fh Tryd.prog cx Tryd.f35.ntmps Gy (Cy Tryd.f35 0):=U5 L8 hp (Kk (by kernel_rfl:Bv (Cy Tryd.f35 0)=[]) trivial) (by kernel_rfl) (fun d=>(by kernel_rfl:bod (Lx Gx) 1 Tryd.f35.ntmps Gy (Cy Tryd.f35 0) Pa 4000000 Pb d=Fg d))
theorem Tx (cx:Cx) (hp:cx.pin.length<=1):Fh Tryd.prog cx Tryd.f35.ntmps Gy (Cy Tryd.f35 1):=U5 L8 hp (Kk (by kernel_rfl:Bv (Cy Tryd.f35 1)=[]) trivial) (by kernel_rfl) (fun d=>(by kernel_rfl:bod (Lx Gx) 1 Tryd.f35.ntmps Gy (Cy Tryd.f35 1) Mt 12000000 Mu d=Dq d))
theorem Pw:Fn Tryd.prog 35 (.box [3] true false) L7:=Xr L8 Tryd.func35 (by kernel_rfl) (by kernel_rfl) (fun cx b hp hb=>Kk (by kernel_rfl:Bv (Tryd.f35.body.getD .skip)=[Cy Tryd.f35 0,Cy Tryd.f35 1]) ⟨U6 cx hp,Tx cx hp,trivial⟩ b hb) (fun d=>(by kernel_rfl:H2 (Lx Gx) 1 Gy Tryd.f35 (.box [3] true false) (mkA [g_2,g_3] d)=(Jf d.1 d.2.1).run fun r=>some ([rv g_8 r.1],[rv g_2 r.2])))
def Rq:A3:=Az [g_0] (fun d=>(Jg d.1).val) fun r=>([rv g_8 r.1,rv g_7 r.2],[])
theorem Px:Fn Tryd.prog 11 .view Rq:=mkF [(34,.ret,Po),(35,(.box [3] true false),L7),qA 36 Nq] ⟨Ts,Pw,Rp,trivial⟩ Tryd.func11 0
def Py:A3:=Az [g_0] (fun d=>(Pz d.1).val) (Fo g_0)
theorem Tz:Fq 59 Py:=mkF [] trivial Tryd.func59 0
def Jw:A3:=Az [g_8] (fun d=>(Jx d.1).val) (Fo g_8)
theorem Mv:Fq 37 Jw:=Hg [Fz 59 Py] ⟨Tz,trivial⟩ ⟨[vS 3 (sW (.sl 31 h_2) 4000000),vS 7 (sR (.sl 31 h_2)),vI 8,vI 9],[],[4000000]⟩ 4000000 [(.exit 0,⟨[vS 3 (sW (.sl 31 h_2) 4000000)],[],[4000000]⟩)] 3 Dd Tryd.func37 0
def H5:A3:=Az [g_3,g_3,g_3] (fun d=>(Ns d.1 d.2.1 d.2.2.1).val) (Fo g_1)
theorem Jh:Fq 51 H5:=mkF [] trivial Tryd.func51 0
def Nt:A3:=Az [g_4] (fun d=>(Nu d.1).val) (Fo g_1)
theorem Rr:Fq 40 Nt:=mkF [Fz 51 H5] ⟨Jh,trivial⟩ Tryd.func40 0
def J6:A3:=Az [g_7] (fun d=>(Nv d.1).val) (Fo g_1)
theorem L9:Fq 18 J6:=mkF [Fz 40 Nt] ⟨Rr,trivial⟩ Tryd.func18 0
def Ma:A3:=Az [g_8] (fun d=>(Mb d.1).val) (Fo g_1)
theorem P0:Fq 16 Ma:=Hg [Fz 18 J6] ⟨L9,trivial⟩ ⟨[vS 0 (sR (.sl 31 h_2)),vS 5 (sR (.sl 31 h_2)),vI 6,vI 7],[],[]⟩ 3000000 [eB,(.exit 0,⟨[vS 0 (sR (.sl 31 h_2))],[],[]⟩)] 2 Fi Tryd.func16 0
def Abh:A3:=Az [g_8,g_7] (fun d=>(U7 d.1 d.2.1).val) (Fo g_8)
theorem Afa:Fq 12 Abh:=mkF [Fz 37 Jw,Fz 16 Ma] ⟨Mv,P0,trivial⟩ Tryd.func12 0
def Lf:A3:=Az [g_0] (fun d=>(H6 d.1).val) fun r=>([rv g_8 r.1,rv g_4 r.2.1,rv g_4 r.2.2],[])
theorem Sm:Fn Tryd.prog 13 .view Lf:=mkF [(34,.ret,Po),(35,(.box [3] true false),L7),qA 39 Cs,Fz 38 Nl] ⟨Ts,Pw,Ct,Pq,trivial⟩ Tryd.func13 0
def Rs:A3:=Az [g_8,g_4,g_4] (fun d=>(Ji d.1 d.2.1 d.2.2.1).val) (Fo g_8)
def Jj:Fns:=[Fz 37 Jw]
theorem Rt:CfgOk Tryd.prog (Lx Jj):=Kj Tq Pn (show Ni Tryd.prog Jj from⟨Mv,trivial⟩)
def Pc:Sk:=⟨[vX 4,vX 5,vS 7 (sW (.sl 31 h_2) 4000000),vS 12 (sW (.sl 31 h_2) 4000001),vI 13,vI 14],[(4,[sI,sI]),(5,[sI,sI])],[4000000,4000001]⟩
def Pd:List (Ex×Sk):=[(.exit 0,⟨[vS 7 (sW (.sl 31 h_2) 4000000)],[],[4000000]⟩)]
def Mc:Ew:=fun i st=>cond (Nat.beq i 3) (lam Pc 4000000 Pd Di st) <| .fail
theorem U8 (cx:Cx) (hp:cx.pin.length<=0):Fh Tryd.prog cx Tryd.f14.ntmps Mc (Cy Tryd.f14 0):=Afb Rt hp (Kk (by kernel_rfl:Bv (Cy Tryd.f14 0)=[]) trivial) 12 14 4500000 (by kernel_rfl) (by kernel_rfl) (fun d=>(by kernel_rfl:Afc (Lx Jj) 0 Tryd.f14.ntmps Mc (Cy Tryd.f14 0) Pc 4000000 Pd 12 14 4500000 d=Di d))
theorem Xz:Fq 14 Rs:=Xr Rt Tryd.func14 (by kernel_rfl) (by kernel_rfl) (fun cx b hp hb=>Kk (by kernel_rfl:Bv (Tryd.f14.body.getD .skip)=[Cy Tryd.f14 0]) ⟨U8 cx hp,trivial⟩ b hb) (fun d=>(by kernel_rfl:H2 (Lx Jj) 0 Mc Tryd.f14 .plain (mkA [g_8,g_4,g_4] d)=(Ji d.1 d.2.1 d.2.2.1).run fun r=>some ([rv g_8 r],[])))
def So:A3:=Az [g_0,g_0] (fun d=>(Sp d.1 d.2.1).val) (Fo g_1)
theorem Wk:Fq 15 So:=mkF [] trivial Tryd.func15 0
def Nw:A3:=Az [g_4] (fun d=>(Nx d.1).val) (Fo g_1)
theorem Ru:Fq 41 Nw:=mkF [Fz 44 Iy] ⟨Jp,trivial⟩ Tryd.func41 0
def J7:A3:=Az [g_7] (fun d=>(Ny d.1).val) (Fo g_1)
theorem Md:Fq 19 J7:=mkF [Fz 41 Nw] ⟨Ru,trivial⟩ Tryd.func19 0
def Rv:A3:=Az [g_8] (fun d=>(Me d.1).val) (Fo g_1)
theorem X0:Fq 17 Rv:=Hg [Fz 19 J7] ⟨Md,trivial⟩ ⟨[vS 0 (sR (.sl 31 h_2)),vI 3],[],[]⟩ 3000000 [eB,(.exit 0,⟨[vS 0 (sR (.sl 31 h_2))],[],[]⟩)] 2 Fj Tryd.func17 0
def Pe:A3:=Az [g_8,g_8] (fun d=>(Jy d.1 d.2.1).val) (Fo g_1)
theorem U9:Fq 20 Pe:=Hg [Fz 15 So] ⟨Wk,trivial⟩ ⟨[vS 0 (sR (.sl 31 h_2)),vS 1 (sR (.sl 31 h_2)),vI 5],[],[]⟩ 5000000 [(.ret,⟨[(4,.v false [(.bool,.nil)])],[],[]⟩),(.exit 0,⟨[],[],[]⟩)] 4 De Tryd.func20 0
def P1:A3:=Az [g_9,g_3] (fun d=>(P2 d.1 d.2.1).val) fun r=>([rv g_0 r.1],[rv g_9 r.2])
theorem T0:Fn Tryd.prog 46 (.box [3] false true) P1:=mkF [Fz 59 Py] ⟨Tz,trivial⟩ Tryd.func46 1
def Abi:A3:=Az [g_0,g_3,g_3] (fun d=>(Va d.1 d.2.1 d.2.2.1).val) fun r=>([rv g_0 r.1,rv g_1 r.2],[])
theorem Afd:Fq 79 Abi:=mkF [] trivial Tryd.func79 0
def X1:A3:=Az [g_0,g_3,g_3] (fun d=>(Sq d.1 d.2.1 d.2.2.1).val) fun r=>([rv g_3 r.1,rv g_3 r.2.1,rv g_1 r.2.2],[])
theorem Adu:Fq 63 X1:=Hg [Fz 79 Abi] ⟨Afd,trivial⟩ ⟨[vI 1,vI 2,vI 11,vS 29 (sO 9000000),vI 30,vI 31],[],[9000000]⟩ 9000000 [(.exit 0,⟨[vI 1,vI 2,vI 11],[],[]⟩)] 8 Gk Tryd.func63 0
def T1:A3:=Az [g_9,g_3] (fun d=>(Nz d.1 d.2.1).val) fun r=>([rv g_3 r.1],[rv g_9 r.2])
theorem Aaw:Fn Tryd.prog 45 (.box [3] false true) T1:=mkF [(46,(.box [3] false true),P1),Fz 63 X1] ⟨T0,Adu,trivial⟩ Tryd.func45 1
def N0:A3:=Az [g_3] (fun d=>(N3 d.1).val) (Fo g_1)
theorem Rw:Fq 47 N0:=mkF [Fz 51 H5] ⟨Jh,trivial⟩ Tryd.func47 0
def Rx:A3:=Az [g_0] (fun d=>(Ry d.1).val) (Fo g_1)
theorem X3:Fq 64 Rx:=mkF [] trivial Tryd.func64 0
def T2:A3:=Az [g_3,g_3] (fun d=>(N4 d.1 d.2.1).val) (Fo g_1)
theorem Aax:Fq 65 T2:=mkF [] trivial Tryd.func65 0
def Jz:A3:=Az [g_0,g_0] (fun d=>(Pf d.1 d.2.1).val) (Fo g_1)
theorem Mw:Fq 49 Jz:=mkF [] trivial Tryd.func49 0
def Pg:A3:=Az [g_6,g_6] (fun d=>(J0 d.1 d.2.1).val) (Fo g_1)
theorem Vb:Fq 66 Pg:=mkF [Fz 49 Jz] ⟨Mw,trivial⟩ Tryd.func66 0
def Mf:A3:=Az [g_6] (fun d=>(Mg d.1).val) (Fo g_1)
theorem P3:Fq 48 Mf:=mkF [Fz 51 H5,Fz 64 Rx,Fz 47 N0,Fz 65 T2,Fz 66 Pg] ⟨Jh,X3,Rw,Aax,Vb,trivial⟩ Tryd.func48 0
def T3:A3:=Az [Ail] (fun d=>(N5 d.1).val) (Fo g_0)
theorem Aay:Fq 67 T3:=Hg [] trivial ⟨[vS 3 (sO 4000000),vS 7 (sR (.sl 24 [.sl 5 [.int .u8]])),vI 8,vI 9],[],[4000000]⟩ 4000000 [(.exit 0,⟨[vS 3 (sO 4000000)],[],[4000000]⟩)] 3 Ee Tryd.func67 0
def X4:A3:=Az [g_0,g_3,g_3] (fun d=>(X5 d.1 d.2.1 d.2.2.1).val) (Fo g_0)
theorem Adv:Fq 68 X4:=Hg [] trivial ⟨[vI 1,vS 7 (sO 6000000),vI 8],[],[6000000]⟩ 6000000 [(.exit 0,⟨[vS 7 (sO 6000000)],[],[6000000]⟩)] 5 T4 Tryd.func68 0
def P4:A3:=Az [g_6] (fun d=>(Kp d.1).val) (Fo g_0)
theorem Xg:Fq 50 P4:=mkF [Fz 48 Mf,Fz 67 T3,Fz 68 X4] ⟨P3,Aay,Adv,trivial⟩ Tryd.func50 0
def P5:A3:=Az [g_0] (fun d=>(Kq d.1).val) fun r=>([rv g_6 r.1,rv g_1 r.2],[])
theorem Xh:Fq 28 P5:=mkF [(45,(.box [3] false true),T1),(46,(.box [3] false true),P1),Fz 47 N0,Fz 48 Mf,Fz 50 P4,Fz 49 Jz] ⟨Aaw,T0,Rw,P3,Xg,Mw,trivial⟩ Tryd.func28 0
def P6:A3:=Az [g_3] (fun d=>(Kr d.1).val) (Fo Sf)
theorem Xi:Fq 29 P6:=mkF [Fz 51 H5] ⟨Jh,trivial⟩ Tryd.func29 0
def Vc:List (Bool×List Sh):=[(false,[.int .i64])]
def Vd (r:ByteArray×Unit):List RV×List RV:=([rv (false,[.str]) r],[])
def Iz:A3:=Az Vc (fun d=>(Mx d.1).val) Vd
theorem Lg:Fq 31 Iz:=
 ⟨Adw (by kernel_rfl) (List.mem_singleton.2 rfl) (fun n w h0 h1 ht=>(Any.strconv_Itoa Tryd.laysM171 n h0 h1 w ht).mono fun e w' ⟨h,k,os,hw⟩=>⟨h,hw▸T5⟩) (fun d=>rfl),Tryd.f31,Tryd.func31,by kernel_rfl,by kernel_rfl⟩

def Ve:List (Bool×List Sh):=[(false,[.sl 9 [.str]]),(false,[.str])]
def Vf (r:ByteArray×Unit):List RV×List RV:=([rv (false,[.str]) r],[])
def My:A3:=Az Ve (fun d=>(I0 d.1 d.2.1).val) Vf
theorem T6:Fq 52 My:=
 ⟨Adx (fun a c sep w=>(Tryd.strings_Join_none a c sep w).mono fun e w' ⟨h,hw⟩=>⟨h,hw▸A4.refl _⟩) (fun bk o c xs sep w h1 h2 h3 h4 h5=>(Tryd.strings_Join bk o c xs sep w h1 h2 h3 h4 h5).mono fun e w' ⟨h,hw⟩=>⟨h,A4.of_below hw⟩) (fun d=>rfl),Tryd.f52,Tryd.func52,by kernel_rfl,by kernel_rfl⟩

def P7:A3:=Az [g_4] (fun d=>(Ks d.1).val) (Fo Sf)
theorem Xj:Fq 30 P7:=Hg [Fz 40 Nt,Fz 31 Iz,Fz 52 My] ⟨Rr,Lg,T6,trivial⟩ ⟨[vX 1,vS 3 (sW (.sl 9 [.str]) 6000000),vI 4],[(1,[sI,sI])],[6000000]⟩ 6000000 [(.exit 0,⟨[vX 1,vS 3 (sW (.sl 9 [.str]) 6000000)],[(1,[sI,sI])],[6000000]⟩)] 5 Cf Tryd.func30 0
def P8:A3:=Az [g_7] (fun d=>(Kt d.1).val) (Fo Sf)
theorem Xk:Fq 8 P8:=mkF [Fz 18 J6,Fz 28 P5,Fz 29 P6,Fz 30 P7,Fz 31 Iz] ⟨L9,Xh,Xi,Xj,Lg,trivial⟩ Tryd.func8 0
def X6:A3:=Az [g_0,g_3,g_3] (fun d=>(Sr d.1 d.2.1 d.2.2.1).val) fun r=>([rv g_3 r.1,rv g_3 r.2.1,rv g_1 r.2.2],[])
theorem Ady:Fq 42 X6:=Hg [] trivial ⟨[vS 0 sB,vI 1,vI 2,vI 9,vI 10],[],[]⟩ 6000000 [(.exit 0,⟨[vI 1,vI 2,vI 9],[],[]⟩)] 5 Gl Tryd.func42 0
def P9:A3:=Az [g_0] (fun d=>(Ku d.1).val) fun r=>([rv g_6 r.1,rv g_1 r.2],[])
theorem Xl:Fq 22 P9:=mkF [Fz 42 X6,Fz 43 Km] ⟨Ady,O9,trivial⟩ Tryd.func22 0
def Qa:A3:=Az [g_3] (fun d=>(H7 d.1).val) (Fo Sf)
theorem Xm:Fq 23 Qa:=mkF [Fz 44 Iy] ⟨Jp,trivial⟩ Tryd.func23 0
def Qb:A3:=Az [g_3] (fun d=>(Qc d.1).val) (Fo Sf)
theorem T7:Fq 25 Qb:=Hg [] trivial ⟨[vI 0,(3,.v false [(.str,.nil)])],[],[]⟩ 5000000 [(.exit 0,⟨[(3,.v false [(.str,.nil)])],[],[]⟩)] 4 D8 Tryd.func25 0
def Qd:A3:=Az [g_4] (fun d=>(Kv d.1).val) (Fo Sf)
theorem Xn:Fq 24 Qd:=mkF [Fz 41 Nw,Fz 25 Qb] ⟨Ru,T7,trivial⟩ Tryd.func24 0
def Qe:A3:=Az [g_7] (fun d=>(Kw d.1).val) (Fo Sf)
theorem Xo:Fq 6 Qe:=mkF [Fz 19 J7,Fz 22 P9,Fz 23 Qa,Fz 24 Qd,Fz 25 Qb] ⟨Md,Xl,Xm,Xn,T7,trivial⟩ Tryd.func6 0
end
end Go.Proofs.YthccfdmiejmbaaaDoor

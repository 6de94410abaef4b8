/-
  That the functions of the seat answer what the terms of text W say; nothing is assumed.
-/
import Derived.Test.YthccfdmiejmbaaaGreatW
import Derived.Test.YthccfdmiejmbaaaGreatProg
import Derived.KernelRfl
namespace Go.Proofs.YthccfdmiejmbaaaGreat
open Go.RowKit
set_option linter.unusedVariables false
set_option maxRecDepth 100000
set_option maxHeartbeats 4000000
noncomputable section
abbrev h_0:List Sh:=[.int .i64,.int .i64,.bool,.int .u8]
abbrev h_1:List Sh:=[.sl 5 [.int .u8],.int .i64,.int .i64]
abbrev h_2:List Sh:=[.int .i64,.int .i64,.int .i64,.int .i64]
abbrev h_3:List Sh:=[.sl 3 [.int .i64],.sl 5 [.int .u8],.int .i64]
abbrev h_4:List Sh:=[.int .i64,.int .i64,.sl 5 [.int .u8],.int .i64]
abbrev h_5:List Sh:=[.int .i64,.sl 5 [.int .u8],.int .i64,.int .i64,.sl 3 [.int .i64]]
abbrev h_6:List Sh:=[.int .i64,.int .i64,.sl 228 h_4]
abbrev h_7:List Sh:=[.int .i64,.int .i64,.sl 319 h_4]
abbrev h_8:List Sh:=[.int .i64,.int .i64,.int .i64,.sl 5 [.int .u8],.sl 5 [.int .u8],.int .i64,.int .i64,.sl 5 [.int .u8],.sl 5 [.int .u8],.int .i64,.int .i64,.int .i64]
abbrev h_9:List Sh:=[.int .i64,.int .i64,.sl 5 [.int .u8],.sl 5 [.int .u8],.int .i64,.sl 5 [.int .u8],.sl 5 [.int .u8],.int .i64,.int .i64,.sl 5 [.int .u8],.sl 5 [.int .u8]]
abbrev Xd:List Sh:=[.int .i64,.int .i64,.int .i64,.int .i64,.sl 5 [.int .u8],.sl 5 [.int .u8],.int .i64,.sl 5 [.int .u8],.sl 5 [.int .u8],.int .i64,.int .i64,.sl 5 [.int .u8],.sl 5 [.int .u8]]
abbrev Bxd:List Sh:=[.int .i64,.sl 5 [.int .u8],.int .i64,.sl 5 [.int .u8],.int .i64,.int .i64,.sl 3 [.int .i64],.int .i64,.sl 5 [.int .u8],.int .i64,.int .i64,.sl 3 [.int .i64],.bool,.int .i64,.sl 5 [.int .u8]]
abbrev D6:List Sh:=[.int .i64,.sl 5 [.int .u8],.sl 5 [.int .u8],.int .i64,.sl 5 [.int .u8],.int .i64,.sl 5 [.int .u8],.int .i64,.int .i64,.sl 3 [.int .i64],.int .i64,.sl 5 [.int .u8],.int .i64,.int .i64,.sl 3 [.int .i64],.bool,.int .i64,.sl 5 [.int .u8],.int .i64,.int .i64,.sl 228 h_4,.int .i64,.int .i64,.bool]
abbrev Asf:List Sh:=[.int .i64,.sl 5 [.int .u8],.sl 5 [.int .u8],.int .i64,.sl 5 [.int .u8],.int .i64,.sl 5 [.int .u8],.int .i64,.int .i64,.sl 3 [.int .i64],.int .i64,.sl 5 [.int .u8],.int .i64,.int .i64,.sl 3 [.int .i64],.bool,.int .i64,.sl 5 [.int .u8],.int .i64,.int .i64,.sl 319 h_4,.int .i64,.int .i64,.bool]
abbrev B08:List Sh:=[.sl 22 [.sl 5 [.int .u8]],.sl 5 [.int .u8],.sl 5 [.int .u8],.int .i64,.int .i64,.sl 113 D6,.sl 175 h_2]
abbrev B09:List Sh:=[.sl 22 [.sl 5 [.int .u8]],.sl 5 [.int .u8],.sl 5 [.int .u8],.int .i64,.int .i64,.sl 264 Asf,.sl 213 h_2]
abbrev g_0:Bool×List Sh:=(false,[.sl 5 [.int .u8]])
abbrev g_1:Bool×List Sh:=(false,[.int .i64])
abbrev g_2:Bool×List Sh:=(false,[.sl 22 [.sl 5 [.int .u8]]])
abbrev g_3:Bool×List Sh:=(true,[.sl 5 [.int .u8]])
abbrev g_4:Bool×List Sh:=(true,[.sl 5 [.int .u8],.int .i64])
abbrev g_5:Bool×List Sh:=(false,[.sl 3 [.int .i64]])
abbrev g_6:Bool×List Sh:=(true,[.int .i64,.sl 3 [.int .i64]])
abbrev g_7:Bool×List Sh:=(true,h_5)
abbrev g_8:Bool×List Sh:=(true,Bxd)
abbrev g_9:Bool×List Sh:=(true,h_4)
abbrev B1a:Bool×List Sh:=(false,[.sl 319 h_4])
abbrev B1b:Bool×List Sh:=(true,h_7)
abbrev B1c:Bool×List Sh:=(true,Asf)
abbrev B1d:Bool×List Sh:=(false,[.sl 264 Asf])
abbrev B1e:Bool×List Sh:=(true,[.int .i64,.sl 264 Asf])
abbrev B1f:Bool×List Sh:=(false,[.sl 213 h_2])
abbrev Bq5:Bool×List Sh:=(true,B09)
abbrev Ee:Bool×List Sh:=(true,[.int .i64,.int .i64])
abbrev Bcs:Bool×List Sh:=(false,[.sl 228 h_4])
abbrev H1:Bool×List Sh:=(true,h_6)
abbrev Ki:Bool×List Sh:=(true,D6)
abbrev Bct:Bool×List Sh:=(false,[.sl 113 D6])
abbrev Kj:Bool×List Sh:=(true,[.int .i64,.sl 113 D6])
abbrev Bq6:Bool×List Sh:=(true,h_2)
abbrev Ll:Bool×List Sh:=(false,[.sl 175 h_2])
abbrev Hv:Bool×List Sh:=(true,B08)
abbrev Bq:Bool×List Sh:=(false,[.bool])
abbrev E7:Bool×List Sh:=(true,h_9)
abbrev Ams:Bool×List Sh:=(true,h_8)
abbrev B1g:Bool×List Sh:=(false,[.str])
abbrev Sf:Bool×List Sh:=(false,[.sl 85 Xd])
abbrev Vq:Bool×List Sh:=(false,[.sl 95 h_8])
abbrev Bjg:Bool×List Sh:=(true,h_3)
abbrev B2u:Bool×List Sh:=(false,[.int .u8])
abbrev B1h:Bool×List Sh:=(true,Xd)
def tys:List (Nat×Ty):=[(3,⟨false,[.int .i64],[],false,[]⟩),
 (4,⟨false,[.bool],[],false,[]⟩),
 (5,⟨false,[.int .u8],[],false,[]⟩),
 (9,⟨false,[.str],[],false,[]⟩),
 (22,⟨false,[.sl 5 [.int .u8]],[],false,[]⟩),
 (24,⟨false,[.sl 22 [.sl 5 [.int .u8]]],[],false,[]⟩),
 (26,⟨true,[.sl 5 [.int .u8]],[(0,1)],false,[]⟩),
 (28,⟨true,[.sl 5 [.int .u8],.int .i64],[(0,1),(1,1)],false,[]⟩),
 (29,⟨false,[.sl 113 D6],[],false,[]⟩),
 (31,⟨true,[.int .i64,.sl 113 D6],[(0,1),(1,1)],false,[]⟩),
 (32,⟨false,[.sl 175 h_2],[],false,[]⟩),
 (34,⟨true,B08,[(0,1),(1,1),(2,2),(4,2),(6,1)],false,[]⟩),
 (36,⟨true,[.int .i64,.int .i64],[(0,1),(1,1)],true,[]⟩),
 (39,⟨false,[.sl 85 Xd],[],false,[]⟩),
 (40,⟨false,[.sl 95 h_8],[],false,[]⟩),
 (44,⟨true,h_9,[(0,1),(1,1),(2,1),(3,1),(4,1),(5,1),(6,1),(7,1),(8,1),(9,1),(10,1)],false,[]⟩),
 (50,⟨true,[.sl 5 [.int .u8]],[(0,1)],false,[]⟩),
 (51,⟨true,[.sl 5 [.int .u8],.int .i64],[(0,1),(1,1)],false,[]⟩),
 (52,⟨false,[.sl 264 Asf],[],false,[]⟩),
 (54,⟨true,[.int .i64,.sl 264 Asf],[(0,1),(1,1)],false,[]⟩),
 (55,⟨false,[.sl 213 h_2],[],false,[]⟩),
 (57,⟨true,B09,[(0,1),(1,1),(2,2),(4,2),(6,1)],false,[]⟩),
 (58,⟨true,[.int .i64,.int .i64],[(0,1),(1,1)],true,[]⟩),
 (85,⟨true,Xd,[(0,2),(2,11)],false,[]⟩),
 (95,⟨true,h_8,[(0,1),(1,1),(2,1),(3,1),(4,1),(5,1),(6,1),(7,1),(8,1),(9,2),(11,1)],false,[]⟩),
 (102,⟨false,[.sl 3 [.int .i64]],[],false,[]⟩),
 (104,⟨true,[.int .i64,.sl 3 [.int .i64]],[(0,1),(1,1)],false,[]⟩),
 (106,⟨true,h_5,[(0,1),(1,1),(2,1),(3,2)],false,[]⟩),
 (108,⟨true,Bxd,[(0,1),(1,1),(2,5),(7,5),(12,1),(13,1),(14,1)],false,[]⟩),
 (109,⟨false,[.sl 228 h_4],[],false,[]⟩),
 (111,⟨true,h_6,[(0,2),(2,1)],false,[36,109]⟩),
 (113,⟨true,D6,[(0,1),(1,1),(2,1),(3,15),(18,3),(21,1),(22,1),(23,1)],false,[]⟩),
 (175,⟨true,h_2,[(0,2),(2,1),(3,1)],true,[]⟩),
 (213,⟨true,h_2,[(0,2),(2,1),(3,1)],true,[]⟩),
 (228,⟨true,h_4,[(0,2),(2,1),(3,1)],false,[]⟩),
 (255,⟨true,[.int .i64,.sl 3 [.int .i64]],[(0,1),(1,1)],false,[]⟩),
 (257,⟨true,h_5,[(0,1),(1,1),(2,1),(3,2)],false,[]⟩),
 (259,⟨true,Bxd,[(0,1),(1,1),(2,5),(7,5),(12,1),(13,1),(14,1)],false,[]⟩),
 (260,⟨false,[.sl 319 h_4],[],false,[]⟩),
 (262,⟨true,h_7,[(0,2),(2,1)],false,[]⟩),
 (264,⟨true,Asf,[(0,1),(1,1),(2,1),(3,15),(18,3),(21,1),(22,1),(23,1)],false,[]⟩),
 (269,⟨false,[.int .u64],[],false,[]⟩),
 (309,⟨true,h_3,[(0,1),(1,1),(2,1)],false,[]⟩),
 (319,⟨true,h_4,[(0,2),(2,1),(3,1)],false,[]⟩)]
theorem J9:Bq7 Tryz.prog tys=true:=by kernel_rfl
theorem Oa:Tryz.prog.follows .mixedOrders=true:=by kernel_rfl
abbrev D0 (C:Fns):Cfg:=⟨A84 tys,Adm C,Zz C,3,4⟩
theorem mkF {f:FuncId} {fn:Func} {kd:Kind} {ps:List (Bool×List Sh)} {R:Type} {T:Vr ps->Tree R} {rvs:R->List RV×List RV} (C:Fns) (hc:L5 Tryz.prog C) (hf:Tryz.prog.funcs[f]? =some fn) (np:Nat) (hn:(fn.name== "runtime.NumGoroutine")=false:=by kernel_rfl) (hb:fn.body.isSome=true:=by kernel_rfl) (hl:Bz (fn.body.getD .skip)=[]:=by kernel_rfl)
  (he: ∀d,H2 (D0 C) np (fun _ _=>.fail) fn kd (mkA ps d)=(T d).run fun r=>some (rvs r):=by intro d;kernel_rfl):Fn Tryz.prog f kd (Ao ps (fun d=>(T d).val) rvs):=
 Qh (Gq Oa J9 hc) hf hn hb (fun cx b hp hbb=>by rw[hl]at hbb;cases hbb) he
abbrev lpq (r:Nat) (K:Sk) (z:Nat) (X:List (Ex×Sk)) (B:K.den->Option (K.den⊕Xe X)):Gt:=fun i st=>cond (Nat.beq i r) (lam K z X B st) .fail
theorem Cb {f:FuncId} {fn:Func} {kd:Kind} {ps:List (Bool×List Sh)} {R:Type} {T:Vr ps->Tree R} {rvs:R->List RV×List RV} (C:Fns) (hc:L5 Tryz.prog C) (K:Sk) (z:Nat) (X:List (Ex×Sk)) (r:Nat) (B:K.den->Option (K.den⊕Xe X)) (hf:Tryz.prog.funcs[f]? =some fn) (np:Nat) (hn:(fn.name== "runtime.NumGoroutine")=false:=by kernel_rfl) (hb:fn.body.isSome=true:=by kernel_rfl) (h1:Bz (fn.body.getD .skip)=[Ba fn 0]:=by kernel_rfl) (h2:Bz (Ba fn 0)=[]:=by kernel_rfl)
  (hq:lpq r K z X B (Q2 (Ba fn 0))=lam K z X B:=by kernel_rfl) (hl: ∀d,bod (D0 C) np fn.ntmps (lpq r K z X B) (Ba fn 0) K z X d=B d:=by intro d;kernel_rfl)
  (he: ∀d,H2 (D0 C) np (lpq r K z X B) fn kd (mkA ps d)=(T d).run fun r=>some (rvs r):=by intro d;kernel_rfl):Fn Tryz.prog f kd (Ao ps (fun d=>(T d).val) rvs):=
 Qh (Gq Oa J9 hc) hf hn hb (fun cx b hp hbb=>Do h1 ⟨Fl (Gq Oa J9 hc) hp (Do h2 trivial) hq hl,trivial⟩ b hbb) he
abbrev Fq (f:FuncId) (F:An):Prop:=Fn Tryz.prog f .plain F
abbrev Fz (f:FuncId) (F:An):FuncId×Kind×An:=(f,.plain,F)
abbrev Fo (g:Bool×List Sh) (r:dens g.2):List RV×List RV:=([rv g r],[])
abbrev sI:Sh×Tok:=(.int .i64,.nil)
abbrev sB:Sh×Tok:=(.sl 5 [.int .u8],.ro)
abbrev sL:Sh×Tok:=(.sl 3 [.int .i64],.ro)
abbrev sO (n:Nat):Sh×Tok:=(.sl 5 [.int .u8],.own n)
abbrev sR (s:Sh):Sh×Tok:=(s,.ro)
abbrev sW (s:Sh) (n:Nat):Sh×Tok:=(s,.own n)
abbrev vS (n:Nat) (x:Sh×Tok):Nat×PSk:=(n,.v false [x])
abbrev vI (n:Nat):Nat×PSk:=vS n sI
abbrev vX (n:Nat):Nat×PSk:=(n,.box n 0)
abbrev eB:Ex×Sk:=(.ret,⟨[(2,.v false [(.bool,.nil)])],[],[]⟩)
def Kt:An:=Ao [g_0,g_1] (fun d=>(Amt d.1 d.2.1).val) (Fo g_1)
theorem Lm:Fq 198 Kt:=mkF [] trivial Tryz.func198 0
def Ayw:An:=Ao [g_2,g_1] (fun d=>(Ah9 d.1 d.2.1).val) (Fo g_1)
theorem Bhv:Fq 89 Ayw:=Cb [Fz 198 Kt] ⟨Lm,trivial⟩ ⟨[vS 0 (sR (.sl 22 [.sl 5 [.int .u8]])),vI 1,vI 5],[],[]⟩ 6000000 [(.ret,⟨[vI 4],[],[]⟩),(.exit 0,⟨[vI 1],[],[]⟩)] 5 Ui Tryz.func89 0
def Bfa:An:=Ao [g_3,g_1] (fun d=>(Ayx d.1 d.2.1).val) (Fo g_1)
theorem Bq8:Fq 90 Bfa:=mkF [Fz 198 Kt] ⟨Lm,trivial⟩ Tryz.func90 0
def A85:An:=Ao [g_4,g_1] (fun d=>(Asg d.1 d.2.1).val) (Fo g_1)
theorem Bnm:Fq 91 A85:=mkF [Fz 198 Kt] ⟨Lm,trivial⟩ Tryz.func91 0
def A86:An:=Ao [g_5,g_1] (fun d=>(Ash d.1 d.2.1).val) (Fo g_1)
theorem Bnn:Fq 378 A86:=mkF [] trivial Tryz.func378 0
def Bfb:An:=Ao [g_6,g_1] (fun d=>(Ayy d.1 d.2.1).val) (Fo g_1)
theorem Bq9:Fq 366 Bfb:=mkF [Fz 378 A86] ⟨Bnn,trivial⟩ Tryz.func366 0
def Bjh:An:=Ao [g_7,g_1] (fun d=>(A58 d.1 d.2.1).val) (Fo g_1)
theorem Bt8:Fq 344 Bjh:=mkF [Fz 198 Kt,Fz 366 Bfb] ⟨Lm,Bq9,trivial⟩ Tryz.func344 0
def A87:An:=Ao [g_8,g_1] (fun d=>(Asi d.1 d.2.1).val) (Fo g_1)
theorem Bno:Fq 314 A87:=mkF [Fz 198 Kt,Fz 344 Bjh] ⟨Lm,Bt8,trivial⟩ Tryz.func314 0
def A88:An:=Ao [g_9,g_1] (fun d=>(Asj d.1 d.2.1).val) (Fo g_1)
theorem Bnp:Fq 367 A88:=mkF [Fz 198 Kt] ⟨Lm,trivial⟩ Tryz.func367 0
def A39:An:=Ao [B1a,g_1] (fun d=>(Amu d.1 d.2.1).val) (Fo g_1)
theorem Bji:Fq 345 A39:=Cb [Fz 367 A88] ⟨Bnp,trivial⟩ ⟨[vS 0 (sR (.sl 319 h_4)),vI 1,vI 5],[],[]⟩ 6000000 [(.ret,⟨[vI 4],[],[]⟩),(.exit 0,⟨[vI 1],[],[]⟩)] 5 Wv Tryz.func345 0
def A4a:An:=Ao [B1b,g_1] (fun d=>(Amv d.1 d.2.1).val) (Fo g_1)
theorem Bjj:Fq 315 A4a:=mkF [Fz 345 A39] ⟨Bji,trivial⟩ Tryz.func315 0
def A89:An:=Ao [B1c,g_1] (fun d=>(Ask d.1 d.2.1).val) (Fo g_1)
theorem Bnq:Fq 269 A89:=mkF [Fz 198 Kt,Fz 314 A87,Fz 315 A4a] ⟨Lm,Bno,Bjj,trivial⟩ Tryz.func269 0
def A4b:An:=Ao [B1d,g_1] (fun d=>(Amw d.1 d.2.1).val) (Fo g_1)
theorem Bjk:Fq 199 A4b:=Cb [Fz 269 A89] ⟨Bnq,trivial⟩ ⟨[vS 0 (sR (.sl 264 Asf)),vI 1,vI 5],[],[]⟩ 6000000 [(.ret,⟨[vI 4],[],[]⟩),(.exit 0,⟨[vI 1],[],[]⟩)] 5 Ww Tryz.func199 0
def Bfc:An:=Ao [B1e,g_1] (fun d=>(Ayz d.1 d.2.1).val) (Fo g_1)
theorem Bra:Fq 92 Bfc:=mkF [Fz 199 A4b] ⟨Bjk,trivial⟩ Tryz.func92 0
def Axs:An:=Ao [B1f,g_1] (fun d=>(Afg d.1 d.2.1).val) (Fo g_1)
theorem Bcu:Fq 93 Axs:=mkF [] trivial Tryz.func93 0
def Ay0:An:=Ao [Bq5,g_1] (fun d=>(Aia d.1 d.2.1).val) (Fo g_1)
theorem Bhw:Fq 14 Ay0:=mkF [Fz 89 Ayw,Fz 90 Bfa,Fz 91 A85,Fz 92 Bfc,Fz 93 Axs] ⟨Bhv,Bq8,Bnm,Bra,Bcu,trivial⟩ Tryz.func14 0
def I3:An:=Ao [g_0] (fun d=>(Amx d.1).val) (Fo g_0)
theorem Jc:Fq 17 I3:=Cb [] trivial ⟨[vS 0 sB,vS 3 (sO 4000000),vI 4],[],[4000000]⟩ 4000000 [(.exit 0,⟨[vS 3 (sO 4000000)],[],[4000000]⟩)] 3 Q3 Tryz.func17 0
def Ay1:An:=Ao [g_2] (fun d=>(Aib d.1).val) (Fo g_2)
theorem Bhx:Fq 94 Ay1:=Cb [Fz 17 I3] ⟨Jc,trivial⟩ ⟨[vS 0 (sR (.sl 22 [.sl 5 [.int .u8]])),vS 3 (sW (.sl 22 [.sl 5 [.int .u8]]) 4000000),vI 4],[],[4000000]⟩ 4000000 [(.exit 0,⟨[vS 3 (sW (.sl 22 [.sl 5 [.int .u8]]) 4000000)],[],[4000000]⟩)] 3 Og Tryz.func94 0
def Bfd:An:=Ao [g_3] (fun d=>(Ay2 d.1).val) (Fo g_3)
theorem Brb:Fq 95 Bfd:=mkF [Fz 17 I3] ⟨Jc,trivial⟩ Tryz.func95 0
def A9a:An:=Ao [g_4] (fun d=>(Asl d.1).val) (Fo g_4)
theorem Bnr:Fq 96 A9a:=mkF [Fz 17 I3] ⟨Jc,trivial⟩ Tryz.func96 0
def A9b:An:=Ao [g_5] (fun d=>(Asm d.1).val) (Fo g_5)
theorem Bns:Fq 379 A9b:=Cb [] trivial ⟨[vS 0 sL,vS 3 (sW (.sl 3 [.int .i64]) 4000000),vI 4],[],[4000000]⟩ 4000000 [(.exit 0,⟨[vS 3 (sW (.sl 3 [.int .i64]) 4000000)],[],[4000000]⟩)] 3 Sx Tryz.func379 0
def Bfe:An:=Ao [g_6] (fun d=>(Ay3 d.1).val) (Fo g_6)
theorem Brc:Fq 368 Bfe:=mkF [Fz 379 A9b] ⟨Bns,trivial⟩ Tryz.func368 0
def Bjl:An:=Ao [g_7] (fun d=>(A59 d.1).val) (Fo g_7)
theorem Bt9:Fq 346 Bjl:=mkF [Fz 17 I3,Fz 368 Bfe] ⟨Jc,Brc,trivial⟩ Tryz.func346 0
def A9c:An:=Ao [g_8] (fun d=>(Asn d.1).val) (Fo g_8)
theorem Bnt:Fq 316 A9c:=mkF [Fz 17 I3,Fz 346 Bjl] ⟨Jc,Bt9,trivial⟩ Tryz.func316 0
def Z0:An:=Ao [Ee] (fun d=>(Aso d.1).val) (Fo Ee)
theorem Adn:Fq 16 Z0:=mkF [] trivial Tryz.func16 0
def A9d:An:=Ao [g_9] (fun d=>(Asp d.1).val) (Fo g_9)
theorem Bnu:Fq 369 A9d:=mkF [Fz 16 Z0,Fz 17 I3] ⟨Adn,Jc,trivial⟩ Tryz.func369 0
def A4c:An:=Ao [B1a] (fun d=>(Amy d.1).val) (Fo Bcs)
theorem Bjm:Fq 347 A4c:=Cb [Fz 369 A9d] ⟨Bnu,trivial⟩ ⟨[vS 0 (sR (.sl 319 h_4)),vS 3 (sW (.sl 228 h_4) 4000000),vI 4],[],[4000000]⟩ 4000000 [(.exit 0,⟨[vS 3 (sW (.sl 228 h_4) 4000000)],[],[4000000]⟩)] 3 Q4 Tryz.func347 0
def A4d:An:=Ao [B1b] (fun d=>(Amz d.1).val) (Fo H1)
theorem Bjn:Fq 317 A4d:=mkF [Fz 16 Z0,Fz 347 A4c] ⟨Adn,Bjm,trivial⟩ Tryz.func317 0
def A9e:An:=Ao [B1c] (fun d=>(Asq d.1).val) (Fo Ki)
theorem Bnv:Fq 270 A9e:=mkF [Fz 17 I3,Fz 316 A9c,Fz 317 A4d] ⟨Jc,Bnt,Bjn,trivial⟩ Tryz.func270 0
def A4e:An:=Ao [B1d] (fun d=>(Am0 d.1).val) (Fo Bct)
theorem Bjo:Fq 200 A4e:=Cb [Fz 270 A9e] ⟨Bnv,trivial⟩ ⟨[vS 0 (sR (.sl 264 Asf)),vS 3 (sW (.sl 113 D6) 4000000),vI 4],[],[4000000]⟩ 4000000 [(.exit 0,⟨[vS 3 (sW (.sl 113 D6) 4000000)],[],[4000000]⟩)] 3 Q5 Tryz.func200 0
def Bff:An:=Ao [B1e] (fun d=>(Ay4 d.1).val) (Fo Kj)
theorem Brd:Fq 97 Bff:=mkF [Fz 200 A4e] ⟨Bjo,trivial⟩ Tryz.func97 0
def Ay5:An:=Ao [Bq6] (fun d=>(Aic d.1).val) (Fo Bq6)
theorem Bhy:Fq 201 Ay5:=mkF [Fz 16 Z0] ⟨Adn,trivial⟩ Tryz.func201 0
def Axt:An:=Ao [B1f] (fun d=>(Afh d.1).val) (Fo Ll)
theorem Bcv:Fq 98 Axt:=Cb [Fz 201 Ay5] ⟨Bhy,trivial⟩ ⟨[vS 0 (sR (.sl 213 h_2)),vS 3 (sW (.sl 175 h_2) 4000000),vI 4],[],[4000000]⟩ 4000000 [(.exit 0,⟨[vS 3 (sW (.sl 175 h_2) 4000000)],[],[4000000]⟩)] 3 Mp Tryz.func98 0
def Ay6:An:=Ao [Bq5] (fun d=>(Aid d.1).val) (Fo Hv)
theorem Bhz:Fq 15 Ay6:=mkF [Fz 94 Ay1,Fz 95 Bfd,Fz 96 A9a,Fz 97 Bff,Fz 98 Axt] ⟨Bhx,Brb,Bnr,Brd,Bcv,trivial⟩ Tryz.func15 0
def Am1:An:=Ao [g_4] (fun d=>(Am2 d.1).val) (Fo g_4)
theorem Ay7:Fq 156 Am1:=mkF [] trivial Tryz.func156 0
def Asr:An:=Ao [g_6] (fun d=>(A9f d.1).val) (Fo g_6)
theorem A4f:Fq 338 Asr:=mkF [] trivial Tryz.func338 0
def Z1:An:=Ao [g_7] (fun d=>(Ass d.1).val) (Fo g_7)
theorem Ado:Fq 305 Z1:=mkF [Fz 338 Asr] ⟨A4f,trivial⟩ Tryz.func305 0
def Bfg:An:=Ao [g_7,Bq] (fun d=>(Ay8 d.1 d.2.1).val) (Fo g_7)
theorem Bre:Fq 306 Bfg:=mkF [Fz 305 Z1] ⟨Ado,trivial⟩ Tryz.func306 0
def Nw:An:=Ao [g_8] (fun d=>(Am3 d.1).val) (Fo g_8)
theorem Oh:Fq 253 Nw:=mkF [Fz 305 Z1,Fz 306 Bfg] ⟨Ado,Bre,trivial⟩ Tryz.func253 0
def Vs:An:=Ao [g_9] (fun d=>(Am4 d.1).val) (Fo g_9)
theorem Z2:Fq 259 Vs:=mkF [] trivial Tryz.func259 0
def Vt:An:=Ao [H1] (fun d=>(Am5 d.1).val) (Fo H1)
theorem Z3:Fq 254 Vt:=Cb [Fz 259 Vs] ⟨Z2,trivial⟩ ⟨[vX 1,vX 2,vX 3,vI 4],[(1,[sI,sI,sR (.sl 228 h_4)]),(2,[sI,sI,sW (.sl 228 h_4) 4000000]),(3,[sI,sI,sW (.sl 228 h_4) 4000001])],[4000000,4000001]⟩ 4000000 [(.exit 0,⟨[vX 2,vX 3],[(2,[sI,sI,sW (.sl 228 h_4) 4000000]),(3,[sI,sI,sW (.sl 228 h_4) 4000001])],[4000000,4000001]⟩)] 3 Mb Tryz.func254 0
def Vu:An:=Ao [Ki] (fun d=>(Am6 d.1).val) (Fo Ki)
theorem Z4:Fq 175 Vu:=mkF [Fz 253 Nw,Fz 254 Vt] ⟨Oh,Z3,trivial⟩ Tryz.func175 0
def Am7:An:=Ao [Kj] (fun d=>(Am8 d.1).val) (Fo Kj)
theorem Ay9:Fq 157 Am7:=Cb [Fz 175 Vu] ⟨Z4,trivial⟩ ⟨[vX 1,vX 2,vX 3,vI 4],[(1,[sI,sR (.sl 113 D6)]),(2,[sI,sW (.sl 113 D6) 4000000]),(3,[sI,sW (.sl 113 D6) 4000001])],[4000000,4000001]⟩ 4000000 [(.exit 0,⟨[vX 2,vX 3],[(2,[sI,sW (.sl 113 D6) 4000000]),(3,[sI,sW (.sl 113 D6) 4000001])],[4000000,4000001]⟩)] 3 Mc Tryz.func157 0
def A4g:An:=Ao [Hv] (fun d=>(Am9 d.1).val) (Fo Hv)
theorem Bjp:Fq 46 A4g:=Cb [Fz 156 Am1,Fz 157 Am7] ⟨Ay7,Ay9,trivial⟩ ⟨[vX 1,vX 2,vX 3,vI 4],[(1,[sR (.sl 22 [.sl 5 [.int .u8]]),sB,sB,sI,sI,sR (.sl 113 D6),sR (.sl 175 h_2)]),(2,[sW (.sl 22 [.sl 5 [.int .u8]]) 4000000,sO 4000001,sO 4000002,sI,sI,sW (.sl 113 D6) 4000003,sW (.sl 175 h_2) 4000004]),(3,[sW (.sl 22 [.sl 5 [.int .u8]]) 4000005,sO 4000006,sO 4000007,sI,sI,sW (.sl 113 D6) 4000008,sW (.sl 175 h_2) 4000009])],[4000000,4000001,4000002,4000003,4000004,4000005,4000006,4000007,4000008,4000009]⟩ 4000000 [(.exit 0,⟨[vX 2,vX 3],[(2,[sW (.sl 22 [.sl 5 [.int .u8]]) 4000000,sO 4000001,sO 4000002,sI,sI,sW (.sl 113 D6) 4000003,sW (.sl 175 h_2) 4000004]),(3,[sW (.sl 22 [.sl 5 [.int .u8]]) 4000005,sO 4000006,sO 4000007,sI,sI,sW (.sl 113 D6) 4000008,sW (.sl 175 h_2) 4000009])],[4000000,4000001,4000002,4000003,4000004,4000005,4000006,4000007,4000008,4000009]⟩)] 3 Md Tryz.func46 0
def Ci:An:=Ao [g_1,g_1,g_1] (fun d=>(A6a d.1 d.2.1 d.2.2.1).val) (Fo Bq)
theorem Cc:Fq 47 Ci:=mkF [] trivial Tryz.func47 0
def Ak9:An:=Ao [g_3] (fun d=>(Bfh d.1).val) (Fo Bq)
theorem Ast:Fq 80 Ak9:=mkF [] trivial Tryz.func80 0
def Asu:An:=Ao [g_4] (fun d=>(Asv d.1).val) (Fo Bq)
theorem A4h:Fq 81 Asu:=mkF [Fz 47 Ci] ⟨Cc,trivial⟩ Tryz.func81 0
def A6b:An:=Ao [Kj] (fun d=>(A6c d.1).val) (Fo g_1)
theorem Bfi:Fq 174 A6b:=Cb [] trivial ⟨[vX 1,vI 3,vI 4],[(1,[sI,sR (.sl 113 D6)])],[]⟩ 4000000 [(.exit 0,⟨[vI 3],[],[]⟩)] 3 Z5 Tryz.func174 0
def Ana:An:=Ao [g_7] (fun d=>(Anb d.1).val) (Fo Bq)
theorem Aza:Fq 303 Ana:=mkF [] trivial Tryz.func303 0
def Axu:An:=Ao [g_8] (fun d=>(Afi d.1).val) (Fo Bq)
theorem Bcw:Fq 250 Axu:=mkF [Fz 303 Ana] ⟨Aza,trivial⟩ Tryz.func250 0
def Bjq:An:=Ao [g_1] (fun d=>(A6d d.1).val) (Fo Ee)
theorem Bua:Fq 126 Bjq:=mkF [Fz 47 Ci] ⟨Cc,trivial⟩ Tryz.func126 0
def Azb:An:=Ao [g_6,g_1] (fun d=>(Azc d.1 d.2.1).val) (Fo Bq)
theorem A9g:Fq 340 Azb:=mkF [] trivial Tryz.func340 0
def Azd:An:=Ao [g_6] (fun d=>(Ala d.1).val) (Fo Bq)
def Aeq:Fns:=[Fz 47 Ci,Fz 340 Azb]
theorem Aze:CfgOk Tryz.prog (D0 Aeq):=Gq Oa J9 (show L5 Tryz.prog Aeq from⟨Cc,A9g,trivial⟩)
def Azf:Sk:=⟨[vX 1,vI 4],[(1,[sI,sL])],[]⟩
def Azg:List (Ex×Sk):=[eB,(.exit 2,⟨[],[],[]⟩)]
def A4i:Sk:=⟨[vX 1,vI 3],[(1,[sI,sL])],[]⟩
def A4j:List (Ex×Sk):=[eB,(.exit 0,⟨[vX 1],[(1,[sI,sL])],[]⟩)]
def Aer:Gt:=fun i st=>cond (Nat.beq i 4) (lam A4i 5000000 A4j Nx st) <| cond (Nat.beq i 11) (lam Azf 12000000 Azg Jd st) <| .fail
theorem Bjr (cx:Cx) (hp:cx.pin.length<=0):Ec Tryz.prog cx Tryz.f337.ntmps Aer (Ba Tryz.f337 0):=Fl Aze hp (Do (by kernel_rfl:Bz (Ba Tryz.f337 0)=[]) trivial) (by kernel_rfl) (fun d=>(by kernel_rfl:bod (D0 Aeq) 0 Tryz.f337.ntmps Aer (Ba Tryz.f337 0) A4i 5000000 A4j d=Nx d))
theorem Bh0 (cx:Cx) (hp:cx.pin.length<=0):Ec Tryz.prog cx Tryz.f337.ntmps Aer (Ba Tryz.f337 1):=Fl Aze hp (Do (by kernel_rfl:Bz (Ba Tryz.f337 1)=[]) trivial) (by kernel_rfl) (fun d=>(by kernel_rfl:bod (D0 Aeq) 0 Tryz.f337.ntmps Aer (Ba Tryz.f337 1) Azf 12000000 Azg d=Jd d))
theorem A9h:Fq 337 Azd:=Qh Aze Tryz.func337 (by kernel_rfl) (by kernel_rfl) (fun cx b hp hb=>Do (by kernel_rfl:Bz (Tryz.f337.body.getD .skip)=[Ba Tryz.f337 0,Ba Tryz.f337 1]) ⟨Bjr cx hp,Bh0 cx hp,trivial⟩ b hb) (fun d=>(by kernel_rfl:H2 (D0 Aeq) 0 Aer Tryz.f337 .plain (mkA [g_6] d)=(Ala d.1).run fun r=>some ([rv Bq r],[])))
def Asw:An:=Ao [g_7] (fun d=>(A6e d.1).val) (Fo Bq)
theorem Azh:Fq 304 Asw:=mkF [Fz 47 Ci,Fz 337 Azd] ⟨Cc,A9h,trivial⟩ Tryz.func304 0
def Mq:An:=Ao [g_8] (fun d=>(Asx d.1).val) (Fo Bq)
theorem Ny:Fq 251 Mq:=mkF [Fz 47 Ci,Fz 304 Asw,Fz 303 Ana] ⟨Cc,Azh,Aza,trivial⟩ Tryz.func251 0
def Qi:An:=Ao [g_0,g_0] (fun d=>(A9i d.1 d.2.1).val) (Fo Bq)
theorem Rr:Fq 65 Qi:=mkF [] trivial Tryz.func65 0
def H3:An:=Ao [Ee] (fun d=>(Asy d.1).val) (Fo Bq)
theorem Hx:Fq 48 H3:=mkF [Fz 47 Ci] ⟨Cc,trivial⟩ Tryz.func48 0
def Vv:An:=Ao [H1] (fun d=>(Adp d.1).val) (Fo Bq)
def Vw:Fns:=[Fz 48 H3,Fz 47 Ci]
theorem Anc:CfgOk Tryz.prog (D0 Vw):=Gq Oa J9 (show L5 Tryz.prog Vw from⟨Hx,Cc,trivial⟩)
def Axv:Sk:=⟨[vX 1,vI 3],[(1,[sI,sI,sR (.sl 228 h_4)])],[]⟩
def Axw:List (Ex×Sk):=[eB,(.exit 0,⟨[],[],[]⟩)]
def Apz:Sk:=⟨[vX 1,vI 3,vX 4,vI 5],[(1,[sI,sI,sR (.sl 228 h_4)]),(4,[sI,sI,sB,sI])],[]⟩
def Ap0:List (Ex×Sk):=[eB,(.exit 2,⟨[vX 1,vI 3],[(1,[sI,sI,sR (.sl 228 h_4)])],[]⟩)]
def Vx:Gt:=fun i st=>cond (Nat.beq i 10) (lam Apz 11000000 Ap0 Iu st) <| cond (Nat.beq i 4) (lam Axv 5000000 Axw Me st) <| .fail
theorem A9j (cx:Cx) (hp:cx.pin.length<=0):Ec Tryz.prog cx Tryz.f252.ntmps Vx (Ba Tryz.f252 1):=Fl Anc hp (Do (by kernel_rfl:Bz (Ba Tryz.f252 1)=[]) trivial) (by kernel_rfl) (fun d=>(by kernel_rfl:bod (D0 Vw) 0 Tryz.f252.ntmps Vx (Ba Tryz.f252 1) Apz 11000000 Ap0 d=Iu d))
theorem Bcx (cx:Cx) (hp:cx.pin.length<=0):Ec Tryz.prog cx Tryz.f252.ntmps Vx (Ba Tryz.f252 0):=Fl Anc hp (Do (by kernel_rfl:Bz (Ba Tryz.f252 0)=[Ba Tryz.f252 1]) ⟨A9j cx hp,trivial⟩) (by kernel_rfl) (fun d=>(by kernel_rfl:bod (D0 Vw) 0 Tryz.f252.ntmps Vx (Ba Tryz.f252 0) Axv 5000000 Axw d=Me d))
theorem Z6:Fq 252 Vv:=Qh Anc Tryz.func252 (by kernel_rfl) (by kernel_rfl) (fun cx b hp hb=>Do (by kernel_rfl:Bz (Tryz.f252.body.getD .skip)=[Ba Tryz.f252 0]) ⟨Bcx cx hp,trivial⟩ b hb) (fun d=>(by kernel_rfl:H2 (D0 Vw) 0 Vx Tryz.f252 .plain (mkA [H1] d)=(Adp d.1).run fun r=>some ([rv Bq r],[])))
def Z7:An:=Ao [Ki] (fun d=>(Asz d.1).val) (Fo Bq)
theorem Adq:Fq 173 Z7:=mkF [Fz 47 Ci,Fz 250 Axu,Fz 126 Bjq,Fz 251 Mq,Fz 65 Qi,Fz 252 Vv] ⟨Cc,Bcw,Bua,Ny,Rr,Z6,trivial⟩ Tryz.func173 0
def Agw:An:=Ao [Kj,g_0] (fun d=>(As0 d.1 d.2.1).val) (Fo g_1)
theorem Ane:Fq 59 Agw:=Cb [Fz 65 Qi] ⟨Rr,trivial⟩ ⟨[vS 1 sB,vX 2,vI 5],[(2,[sI,sR (.sl 113 D6)])],[]⟩ 3000000 [(.ret,⟨[vI 4],[],[]⟩),(.exit 0,⟨[],[],[]⟩)] 2 Sy Tryz.func59 0
def Azi:An:=Ao [Kj] (fun d=>(Azj d.1).val) (Fo Bq)
theorem A9k:Fq 82 Azi:=Cb [Fz 47 Ci,Fz 174 A6b,Fz 173 Z7,Fz 59 Agw] ⟨Cc,Bfi,Adq,Ane,trivial⟩ ⟨[vX 1,vI 3],[(1,[sI,sR (.sl 113 D6)])],[]⟩ 5000000 [eB,(.exit 0,⟨[],[],[]⟩)] 4 Vy Tryz.func82 0
def Q6:An:=Ao [Ll] (fun d=>(Wx d.1).val) (Fo Bq)
def Q7:Fns:=[Fz 48 H3,Fz 47 Ci]
theorem Afj:CfgOk Tryz.prog (D0 Q7):=Gq Oa J9 (show L5 Tryz.prog Q7 from⟨Hx,Cc,trivial⟩)
def Alb:Sk:=⟨[vS 0 (sR (.sl 175 h_2)),vI 3],[],[]⟩
def Alc:List (Ex×Sk):=[eB,(.exit 0,⟨[],[],[]⟩)]
def Ald:Sk:=⟨[vS 0 (sR (.sl 175 h_2)),vI 3,vI 4],[],[]⟩
def Ale:List (Ex×Sk):=[eB,(.exit 2,⟨[vS 0 (sR (.sl 175 h_2)),vI 3],[],[]⟩)]
def Q8:Gt:=fun i st=>cond (Nat.beq i 9) (lam Ald 10000000 Ale H4 st) <| cond (Nat.beq i 4) (lam Alb 5000000 Alc Ju st) <| .fail
theorem A6f (cx:Cx) (hp:cx.pin.length<=0):Ec Tryz.prog cx Tryz.f83.ntmps Q8 (Ba Tryz.f83 1):=Fl Afj hp (Do (by kernel_rfl:Bz (Ba Tryz.f83 1)=[]) trivial) (by kernel_rfl) (fun d=>(by kernel_rfl:bod (D0 Q7) 0 Tryz.f83.ntmps Q8 (Ba Tryz.f83 1) Ald 10000000 Ale d=H4 d))
theorem A6g (cx:Cx) (hp:cx.pin.length<=0):Ec Tryz.prog cx Tryz.f83.ntmps Q8 (Ba Tryz.f83 0):=Fl Afj hp (Do (by kernel_rfl:Bz (Ba Tryz.f83 0)=[Ba Tryz.f83 1]) ⟨A6f cx hp,trivial⟩) (by kernel_rfl) (fun d=>(by kernel_rfl:bod (D0 Q7) 0 Tryz.f83.ntmps Q8 (Ba Tryz.f83 0) Alb 5000000 Alc d=Ju d))
theorem Uj:Fq 83 Q6:=Qh Afj Tryz.func83 (by kernel_rfl) (by kernel_rfl) (fun cx b hp hb=>Do (by kernel_rfl:Bz (Tryz.f83.body.getD .skip)=[Ba Tryz.f83 0]) ⟨A6g cx hp,trivial⟩ b hb) (fun d=>(by kernel_rfl:H2 (D0 Q7) 0 Q8 Tryz.f83 .plain (mkA [Ll] d)=(Wx d.1).run fun r=>some ([rv Bq r],[])))
def Aes:An:=Ao [g_0] (fun d=>(Azk d.1).val) (Fo Bq)
theorem Agx:Fq 84 Aes:=mkF [Fz 47 Ci] ⟨Cc,trivial⟩ Tryz.func84 0
def Azl:An:=Ao [Hv] (fun d=>(Z8 d.1).val) (Fo Bq)
def Sz:Fns:=[Fz 47 Ci,Fz 80 Ak9,Fz 81 Asu,Fz 82 Azi,Fz 83 Q6,Fz 84 Aes]
theorem Aie:CfgOk Tryz.prog (D0 Sz):=Gq Oa J9 (show L5 Tryz.prog Sz from⟨Cc,Ast,A4h,A9k,Uj,Agx,trivial⟩)
def Ap1:Sk:=⟨[vX 1,vI 4],[(1,[sR (.sl 22 [.sl 5 [.int .u8]]),sB,sB,sI,sI,sR (.sl 113 D6),sR (.sl 175 h_2)])],[]⟩
def Ap2:List (Ex×Sk):=[eB,(.exit 2,⟨[],[],[]⟩)]
def Ap3:Sk:=⟨[vX 1,vI 3],[(1,[sR (.sl 22 [.sl 5 [.int .u8]]),sB,sB,sI,sI,sR (.sl 113 D6),sR (.sl 175 h_2)])],[]⟩
def Ap4:List (Ex×Sk):=[eB,(.exit 0,⟨[vX 1],[(1,[sR (.sl 22 [.sl 5 [.int .u8]]),sB,sB,sI,sI,sR (.sl 113 D6),sR (.sl 175 h_2)])],[]⟩)]
def S1:Gt:=fun i st=>cond (Nat.beq i 4) (lam Ap3 5000000 Ap4 K5 st) <| cond (Nat.beq i 9) (lam Ap1 10000000 Ap2 K6 st) <| .fail
theorem A9l (cx:Cx) (hp:cx.pin.length<=0):Ec Tryz.prog cx Tryz.f11.ntmps S1 (Ba Tryz.f11 0):=Fl Aie hp (Do (by kernel_rfl:Bz (Ba Tryz.f11 0)=[]) trivial) (by kernel_rfl) (fun d=>(by kernel_rfl:bod (D0 Sz) 0 Tryz.f11.ntmps S1 (Ba Tryz.f11 0) Ap3 5000000 Ap4 d=K5 d))
theorem A9m (cx:Cx) (hp:cx.pin.length<=0):Ec Tryz.prog cx Tryz.f11.ntmps S1 (Ba Tryz.f11 1):=Fl Aie hp (Do (by kernel_rfl:Bz (Ba Tryz.f11 1)=[]) trivial) (by kernel_rfl) (fun d=>(by kernel_rfl:bod (D0 Sz) 0 Tryz.f11.ntmps S1 (Ba Tryz.f11 1) Ap1 10000000 Ap2 d=K6 d))
theorem Bh1:Fq 11 Azl:=Qh Aie Tryz.func11 (by kernel_rfl) (by kernel_rfl) (fun cx b hp hb=>Do (by kernel_rfl:Bz (Tryz.f11.body.getD .skip)=[Ba Tryz.f11 0,Ba Tryz.f11 1]) ⟨A9l cx hp,A9m cx hp,trivial⟩ b hb) (fun d=>(by kernel_rfl:H2 (D0 Sz) 0 S1 Tryz.f11 .plain (mkA [Hv] d)=(Z8 d.1).run fun r=>some ([rv Bq r],[])))
def Alf:An:=Ao [Ll,Ee] (fun d=>(Azm d.1 d.2.1).val) (Fo g_1)
theorem As1:Fq 158 Alf:=Cb [] trivial ⟨[vS 0 (sR (.sl 175 h_2)),vX 3,vI 5],[(3,[sI,sI])],[]⟩ 3000000 [(.ret,⟨[vI 4],[],[]⟩),(.exit 0,⟨[],[],[]⟩)] 2 Vz Tryz.func158 0
def Bjs:An:=Ao [Ll,Ee,g_1] (fun d=>(A6h d.1 d.2.1 d.2.2.1).val) (Fo Ll)
theorem Bub:Fq 49 Bjs:=mkF [Fz 83 Q6,Fz 48 H3,Fz 47 Ci,Fz 158 Alf] ⟨Uj,Hx,Cc,As1,trivial⟩ Tryz.func49 0
def A6i:An:=Ao [g_0,g_1,g_1] (fun d=>(A6j d.1 d.2.1 d.2.2.1).val) fun r=>([rv g_1 r.1,rv g_1 r.2.1,rv Bq r.2.2],[])
theorem Bfj:Fq 159 A6i:=Cb [] trivial ⟨[vS 0 sB,vI 1,vI 2,vI 9,vI 10],[],[]⟩ 6000000 [(.exit 0,⟨[vI 1,vI 2,vI 9],[],[]⟩)] 5 Uk Tryz.func159 0
def Qj:An:=Ao [g_1] (fun d=>(As2 d.1).val) (Fo Bq)
theorem Rs:Fq 67 Qj:=mkF [Fz 47 Ci] ⟨Cc,trivial⟩ Tryz.func67 0
def Agy:An:=Ao [g_1,g_1] (fun d=>(As3 d.1 d.2.1).val) (Fo Bq)
theorem Anf:Fq 244 Agy:=mkF [] trivial Tryz.func244 0
def Nz:An:=Ao [E7] (fun d=>(Ang d.1).val) (Fo Bq)
theorem Oi:Fq 166 Nz:=mkF [Fz 67 Qj,Fz 47 Ci,Fz 244 Agy] ⟨Rs,Cc,Anf,trivial⟩ Tryz.func166 0
def Ln:An:=Ao [g_0,g_1,g_1] (fun d=>(A6k d.1 d.2.1 d.2.2.1).val) (Fo g_0)
theorem Ku:Fq 165 Ln:=Cb [] trivial ⟨[vI 1,vS 7 (sO 6000000),vI 8],[],[6000000]⟩ 6000000 [(.exit 0,⟨[vS 7 (sO 6000000)],[],[6000000]⟩)] 5 Z9 Tryz.func165 0
def Aif:An:=Ao [E7] (fun d=>(Aig d.1).val) (Fo g_0)
theorem Axx:Fq 128 Aif:=Cb [Fz 166 Nz,Fz 165 Ln] ⟨Oi,Ku,trivial⟩ ⟨[vS 3 (sO 11000000),vI 4],[],[11000000]⟩ 11000000 [(.exit 1,⟨[vS 3 (sO 11000000)],[],[11000000]⟩)] 10 Jv Tryz.func128 0
def Azn:An:=Ao [g_0] (fun d=>(Aih d.1).val) fun r=>([rv E7 r.1,rv Bq r.2],[])
theorem Bh2:Fq 50 Azn:=mkF [Fz 159 A6i,Fz 128 Aif] ⟨Bfj,Axx,trivial⟩ Tryz.func50 0
def A6l:An:=Ao [Kj,Ee] (fun d=>(A6m d.1 d.2.1).val) (Fo Bq)
theorem Bfk:Fq 160 A6l:=Cb [] trivial ⟨[vX 2,vX 3,vI 5],[(2,[sI,sR (.sl 113 D6)]),(3,[sI,sI])],[]⟩ 3000000 [(.ret,⟨[(4,.v false [(.bool,.nil)])],[],[]⟩),(.exit 0,⟨[],[],[]⟩)] 2 Aaa Tryz.func160 0
def Anh:An:=Ao [Ll,Ee] (fun d=>(Adr d.1 d.2.1).val) (Fo g_1)
theorem Azo:Fq 161 Anh:=mkF [Fz 158 Alf,Fz 83 Q6] ⟨As1,Uj,trivial⟩ Tryz.func161 0
def A9n:An:=Ao [Hv,Ee,g_1] (fun d=>(As4 d.1 d.2.1 d.2.2.1).val) (Fo Bq)
theorem Bnw:Fq 51 A9n:=mkF [Fz 160 A6l,Fz 161 Anh] ⟨Bfk,Azo,trivial⟩ Tryz.func51 0
def Bpn:An:=Ao [g_1] (fun d=>(Bcy d.1).val) (Fo g_0)
theorem Bxe:Fq 333 Bpn:=Cb [Fz 165 Ln] ⟨Ku,trivial⟩ ⟨[vI 0,vS 3 (sO 5000000)],[],[5000000]⟩ 5000000 [(.exit 0,⟨[vI 0,vS 3 (sO 5000000)],[],[5000000]⟩)] 4 Azp Tryz.func333 0
def Bfl:An:=Ao [] (fun d=>(Bfm).val) (Fo g_5)
theorem Brf:Fq 334 Bfl:=mkF [] trivial Tryz.func334 0
def A4k:An:=Ao [g_5] (fun d=>(Ani d.1).val) (Fo Bq)
theorem Bjt:Fq 359 A4k:=Cb [Fz 47 Ci] ⟨Cc,trivial⟩ ⟨[vS 0 sL,vI 3],[],[]⟩ 3000000 [eB,(.exit 0,⟨[vS 0 sL],[],[]⟩)] 2 Q9 Tryz.func359 0
def Bpo:An:=Ao [] (fun d=>(Bpp).val) (Fo g_5)
theorem Bxf:Fq 360 Bpo:=mkF [] trivial Tryz.func360 0
def Bcz:An:=Ao [g_1,g_1] (fun d=>(Bc0 d.1 d.2.1).val) (Fo g_1)
theorem Bju:Fq 362 Bcz:=mkF [] trivial Tryz.func362 0
def Azq:An:=Ao [g_0] (fun d=>(Aab d.1).val) (Fo g_5)
def S2:Fns:=[Fz 159 A6i,Fz 362 Bcz]
theorem Aii:CfgOk Tryz.prog (D0 S2):=Gq Oa J9 (show L5 Tryz.prog S2 from⟨Bfj,Bju,trivial⟩)
def Alg:Sk:=⟨[vS 3 (sW (.sl 3 [.int .i64]) 11000000),vI 8],[],[11000000]⟩
def Alh:List (Ex×Sk):=[(.exit 2,⟨[vS 3 (sW (.sl 3 [.int .i64]) 11000000)],[],[11000000]⟩)]
def Ap5:Sk:=⟨[vS 0 sB,vS 3 (sW (.sl 3 [.int .i64]) 6000000),vI 4],[],[6000000]⟩
def Ap6:List (Ex×Sk):=[(.exit 0,⟨[vS 3 (sW (.sl 3 [.int .i64]) 6000000)],[],[6000000]⟩)]
def S3:Gt:=fun i st=>cond (Nat.beq i 5) (lam Ap5 6000000 Ap6 K7 st) <| cond (Nat.beq i 10) (lam Alg 11000000 Alh Jw st) <| .fail
theorem A9o (cx:Cx) (hp:cx.pin.length<=0):Ec Tryz.prog cx Tryz.f361.ntmps S3 (Ba Tryz.f361 0):=Fl Aii hp (Do (by kernel_rfl:Bz (Ba Tryz.f361 0)=[]) trivial) (by kernel_rfl) (fun d=>(by kernel_rfl:bod (D0 S2) 0 Tryz.f361.ntmps S3 (Ba Tryz.f361 0) Ap5 6000000 Ap6 d=K7 d))
theorem A6n (cx:Cx) (hp:cx.pin.length<=0):Ec Tryz.prog cx Tryz.f361.ntmps S3 (Ba Tryz.f361 1):=Fl Aii hp (Do (by kernel_rfl:Bz (Ba Tryz.f361 1)=[]) trivial) (by kernel_rfl) (fun d=>(by kernel_rfl:bod (D0 S2) 0 Tryz.f361.ntmps S3 (Ba Tryz.f361 1) Alg 11000000 Alh d=Jw d))
theorem Bh3:Fq 361 Azq:=Qh Aii Tryz.func361 (by kernel_rfl) (by kernel_rfl) (fun cx b hp hb=>Do (by kernel_rfl:Bz (Tryz.f361.body.getD .skip)=[Ba Tryz.f361 0,Ba Tryz.f361 1]) ⟨A9o cx hp,A6n cx hp,trivial⟩ b hb) (fun d=>(by kernel_rfl:H2 (D0 S2) 0 S3 Tryz.f361 .plain (mkA [g_0] d)=(Aab d.1).run fun r=>some ([rv g_5 r],[])))
def Azr:An:=Ao [g_5,g_0] (fun d=>(Aac d.1 d.2.1).val) (Fo g_5)
def S4:Fns:=[Fz 359 A4k,Fz 360 Bpo,Fz 361 Azq,Fz 362 Bcz]
theorem Aij:CfgOk Tryz.prog (D0 S4):=Gq Oa J9 (show L5 Tryz.prog S4 from⟨Bjt,Bxf,Bh3,Bju,trivial⟩)
def Ali:Sk:=⟨[vS 0 sL,vS 5 (sW (.sl 3 [.int .i64]) 23000000),vS 19 (sW (.sl 3 [.int .i64]) 23000001),vI 20],[],[23000000,23000001]⟩
def Alj:List (Ex×Sk):=[(.exit 2,⟨[vS 5 (sW (.sl 3 [.int .i64]) 23000000)],[],[23000000]⟩)]
def Ap7:Sk:=⟨[vS 0 sL,vS 5 (sW (.sl 3 [.int .i64]) 9000000),vS 6 (sW (.sl 3 [.int .i64]) 9000001),vS 7 (sW (.sl 3 [.int .i64]) 9000002),vI 8,vI 9,vI 10,vI 11,vI 12,vI 13,vI 14,vI 15,vI 16],[],[9000000,9000001,9000002]⟩
def Ap8:List (Ex×Sk):=[(.exit 0,⟨[vS 0 sL,vS 5 (sW (.sl 3 [.int .i64]) 9000000),vI 8,vI 9,vI 10,vI 11,vI 12,vI 13,vI 14,vI 15],[],[9000000]⟩)]
def S5:Gt:=fun i st=>cond (Nat.beq i 8) (lam Ap7 9000000 Ap8 Iv st) <| cond (Nat.beq i 22) (lam Ali 23000000 Alj H5 st) <| .fail
theorem A9p (cx:Cx) (hp:cx.pin.length<=0):Ec Tryz.prog cx Tryz.f335.ntmps S5 (Ba Tryz.f335 0):=Fl Aij hp (Do (by kernel_rfl:Bz (Ba Tryz.f335 0)=[]) trivial) (by kernel_rfl) (fun d=>(by kernel_rfl:bod (D0 S4) 0 Tryz.f335.ntmps S5 (Ba Tryz.f335 0) Ap7 9000000 Ap8 d=Iv d))
theorem A6o (cx:Cx) (hp:cx.pin.length<=0):Ec Tryz.prog cx Tryz.f335.ntmps S5 (Ba Tryz.f335 1):=Fl Aij hp (Do (by kernel_rfl:Bz (Ba Tryz.f335 1)=[]) trivial) (by kernel_rfl) (fun d=>(by kernel_rfl:bod (D0 S4) 0 Tryz.f335.ntmps S5 (Ba Tryz.f335 1) Ali 23000000 Alj d=H5 d))
theorem Bh4:Fq 335 Azr:=Qh Aij Tryz.func335 (by kernel_rfl) (by kernel_rfl) (fun cx b hp hb=>Do (by kernel_rfl:Bz (Tryz.f335.body.getD .skip)=[Ba Tryz.f335 0,Ba Tryz.f335 1]) ⟨A9p cx hp,A6o cx hp,trivial⟩ b hb) (fun d=>(by kernel_rfl:H2 (D0 S4) 0 S5 Tryz.f335 .plain (mkA [g_5,g_0] d)=(Aac d.1 d.2.1).run fun r=>some ([rv g_5 r],[])))
def Bfn:An:=Ao [g_5] (fun d=>(Azs d.1).val) (Fo g_0)
theorem Brg:Fq 336 Bfn:=Cb [Fz 165 Ln] ⟨Ku,trivial⟩ ⟨[vS 0 sL,vS 3 (sO 4000000),vI 4],[],[4000000]⟩ 4000000 [(.exit 0,⟨[vS 3 (sO 4000000)],[],[4000000]⟩)] 3 Rt Tryz.func336 0
def Bc1:An:=Ao [g_0] (fun d=>(Bc2 d.1).val) (Fo g_0)
theorem Bjv:Fq 301 Bc1:=Cb [Fz 333 Bpn,Fz 334 Bfl,Fz 335 Azr,Fz 336 Bfn] ⟨Bxe,Brf,Bh4,Brg,trivial⟩ ⟨[vS 3 (sO 7000000),vS 4 (sW (.sl 3 [.int .i64]) 7000001),vI 5],[],[7000000,7000001]⟩ 7000000 [(.exit 0,⟨[vS 4 (sW (.sl 3 [.int .i64]) 7000000)],[],[7000000]⟩)] 6 X8 Tryz.func301 0
def Azt:An:=Ao [g_0] (fun d=>(Aik d.1).val) (Fo g_0)
theorem Bh5:Fq 300 Azt:=Cb [Fz 301 Bc1] ⟨Bjv,trivial⟩ ⟨[vS 3 (sO 7000000)],[],[7000000]⟩ 7000000 [(.exit 0,⟨[vS 3 (sO 7000000)],[],[7000000]⟩)] 6 Ul Tryz.func300 0
def Acf:An:=Ao [g_0,g_0] (fun d=>(A6p d.1 d.2.1).val) (Fo g_0)
theorem Aet:Fq 243 Acf:=Cb [Fz 300 Azt,Fz 301 Bc1] ⟨Bh5,Bjv,trivial⟩ ⟨[vS 1 sB,vS 5 (sO 8000000),vS 6 (sO 8000001),vS 7 (sO 8000002),vI 8],[],[8000000,8000001,8000002]⟩ 8000000 [(.exit 0,⟨[vS 1 sB,vS 6 (sO 8000000),vS 7 (sO 8000001)],[],[8000000,8000001]⟩)] 7 Um Tryz.func243 0
def A9q:An:=Ao [g_0,g_1] (fun d=>(As5 d.1 d.2.1).val) (Fo g_0)
theorem Bnx:Fq 162 A9q:=mkF [Fz 47 Ci,Fz 165 Ln,Fz 243 Acf] ⟨Cc,Ku,Aet,trivial⟩ Tryz.func162 0
def Bjw:An:=Ao [g_4] (fun d=>(A6q d.1).val) fun r=>([rv g_4 r.1,rv g_0 r.2],[])
theorem Buc:Fq 52 Bjw:=mkF [Fz 156 Am1,Fz 81 Asu,Fz 162 A9q] ⟨Ay7,A4h,Bnx,trivial⟩ Tryz.func52 0
def A4l:An:=Ao [g_0,Ee] (fun d=>(Anj d.1 d.2.1).val) (Fo g_0)
theorem Bjx:Fq 164 A4l:=mkF [Fz 48 H3,Fz 165 Ln] ⟨Hx,Ku,trivial⟩ Tryz.func164 0
def Ail:An:=Ao [Ee,g_1,g_0,g_0,g_1] (fun d=>(Aim d.1 d.2.1 d.2.2.1 d.2.2.2.1 d.2.2.2.2.1).val) (Fo g_0)
theorem Axy:Fq 56 Ail:=mkF [Fz 48 H3,Fz 47 Ci,Fz 164 A4l,Fz 165 Ln] ⟨Hx,Cc,Bjx,Ku,trivial⟩ Tryz.func56 0
def Ap9:An:=Ao [g_0,g_0] (fun d=>(Bc3 d.1 d.2.1).val) (Fo g_0)
theorem As6:Fq 163 Ap9:=mkF [Fz 243 Acf] ⟨Aet,trivial⟩ Tryz.func163 0
def A6r:An:=Ao [g_3,Ee,g_1,g_0,g_0,g_1] (fun d=>(A6s d.1 d.2.1 d.2.2.1 d.2.2.2.1 d.2.2.2.2.1 d.2.2.2.2.2.1).val) (Fo g_0)
theorem Bfo:Fq 53 A6r:=mkF [Fz 56 Ail,Fz 80 Ak9,Fz 163 Ap9] ⟨Axy,Ast,As6,trivial⟩ Tryz.func53 0
def Axz:An:=Ao [g_0] (fun d=>(Afk d.1).val) (Fo Ams)
theorem Bc4:Fq 54 Axz:=mkF [] trivial Tryz.func54 0
def A6t:An:=Ao [g_0,g_0] (fun d=>(A6u d.1 d.2.1).val) (Fo Ams)
theorem Bfp:Fq 55 A6t:=mkF [] trivial Tryz.func55 0
def Bfq:An:=Ao [g_1,g_1] (fun d=>(Azu d.1 d.2.1).val) (Fo Bq)
theorem Brh:Fq 167 Bfq:=mkF [Fz 47 Ci] ⟨Cc,trivial⟩ Tryz.func167 0
def Bjy:An:=Ao [g_0,g_0] (fun d=>(A6v d.1 d.2.1).val) (Fo g_1)
theorem Bud:Fq 245 Bjy:=Cb [] trivial ⟨[vS 0 sB,vS 1 sB,vI 5,vI 6],[],[]⟩ 6000000 [(.exit 0,⟨[vI 5],[],[]⟩)] 5 Aad Tryz.func245 0
def Ads:An:=Ao [g_0,g_0] (fun d=>(Ank d.1 d.2.1).val) (Fo Bq)
theorem Ain:Fq 168 Ads:=mkF [Fz 245 Bjy] ⟨Bud,trivial⟩ Tryz.func168 0
def Bfr:An:=Ao [g_3,g_1,Ee,E7] (fun d=>(Azv d.1 d.2.1 d.2.2.1 d.2.2.2.1).val) (Fo g_1)
theorem Bri:Fq 57 Bfr:=mkF [Fz 80 Ak9,Fz 47 Ci,Fz 48 H3,Fz 166 Nz,Fz 167 Bfq,Fz 53 A6r,Fz 168 Ads] ⟨Ast,Cc,Hx,Oi,Brh,Bfo,Ain,trivial⟩ Tryz.func57 0
def Anl:An:=Ao [g_0,g_0] (fun d=>(Adt d.1 d.2.1).val) (Fo g_0)
theorem Azw:Fq 177 Anl:=mkF [Fz 243 Acf] ⟨Aet,trivial⟩ Tryz.func177 0
def A9r:An:=Ao [g_0,g_0,g_1] (fun d=>(As7 d.1 d.2.1 d.2.2.1).val) fun r=>([rv g_0 r.1,rv Bq r.2],[])
theorem Bny:Fq 255 A9r:=Cb [Fz 47 Ci,Fz 243 Acf] ⟨Cc,Aet,trivial⟩ ⟨[vS 0 sB,vS 1 sB,vI 2,vS 8 (sO 7000000),vS 9 (sO 7000001),vI 10],[],[7000000,7000001]⟩ 7000000 [(.exit 0,⟨[vI 2,vS 8 (sO 7000000)],[],[7000000]⟩)] 6 Oj Tryz.func255 0
def Aae:An:=Ao [g_0,B1g] (fun d=>(As8 d.1 d.2.1).val) (Fo g_0)
theorem Adu:Fq 176 Aae:=mkF [Fz 255 A9r] ⟨Bny,trivial⟩ Tryz.func176 0
def Afl:An:=Ao [g_0] (fun d=>(Afm d.1).val) (Fo g_0)
theorem Aqa:Fq 63 Afl:=mkF [Fz 84 Aes,Fz 177 Anl,Fz 176 Aae] ⟨Agx,Azw,Adu,trivial⟩ Tryz.func63 0
def Afn:An:=Ao [g_1,g_0,g_0,g_1,g_0] (fun d=>(Afo d.1 d.2.1 d.2.2.1 d.2.2.2.1 d.2.2.2.2.1).val) (Fo g_0)
theorem Aqb:Fq 64 Afn:=mkF [Fz 47 Ci,Fz 165 Ln] ⟨Cc,Ku,trivial⟩ Tryz.func64 0
def Bfs:An:=Ao [g_0,g_1,g_0,g_0,g_1,g_0] (fun d=>(Azx d.1 d.2.1 d.2.2.1 d.2.2.2.1 d.2.2.2.2.1 d.2.2.2.2.2.1).val) (Fo g_0)
theorem Brj:Fq 169 Bfs:=mkF [Fz 63 Afl,Fz 64 Afn,Fz 163 Ap9] ⟨Aqa,Aqb,As6,trivial⟩ Tryz.func169 0
def A4m:An:=Ao [g_0,E7] (fun d=>(Anm d.1 d.2.1).val) (Fo Bq)
theorem Bjz:Fq 58 A4m:=mkF [Fz 166 Nz,Fz 169 Bfs,Fz 168 Ads] ⟨Oi,Brj,Ain,trivial⟩ Tryz.func58 0
def A4n:An:=Ao [g_0,g_0,g_0] (fun d=>(Ann d.1 d.2.1 d.2.2.1).val) (Fo g_0)
theorem Bj0:Fq 248 A4n:=mkF [Fz 84 Aes,Fz 177 Anl] ⟨Agx,Azw,trivial⟩ Tryz.func248 0
def Azy:An:=Ao [g_0] (fun d=>(Aio d.1).val) (Fo g_0)
theorem Bh6:Fq 247 Azy:=mkF [Fz 176 Aae] ⟨Adu,trivial⟩ Tryz.func247 0
def Bft:An:=Ao [g_0,g_1] (fun d=>(Azz d.1 d.2.1).val) (Fo g_0)
theorem Brk:Fq 249 Bft:=Cb [Fz 47 Ci,Fz 176 Aae] ⟨Cc,Adu,trivial⟩ ⟨[vI 1,vS 5 (sO 6000000),vI 6],[],[6000000]⟩ 6000000 [(.exit 0,⟨[vS 5 (sO 6000000)],[],[6000000]⟩)] 5 Ru Tryz.func249 0
def Az0:An:=Ao [g_0,g_0,g_0,g_1] (fun d=>(Aip d.1 d.2.1 d.2.2.1 d.2.2.2.1).val) (Fo g_0)
theorem Bh7:Fq 171 Az0:=mkF [Fz 248 A4n,Fz 247 Azy,Fz 249 Bft] ⟨Bj0,Bh6,Brk,trivial⟩ Tryz.func171 0
def A9s:An:=Ao [] (fun d=>(As9).val) (Fo g_6)
theorem Bnz:Fq 302 A9s:=Cb [] trivial ⟨[vX 0,vX 1,vI 2],[(0,[sI,sW (.sl 3 [.int .i64]) 4000000]),(1,[sI,sW (.sl 3 [.int .i64]) 4000001])],[4000000,4000001]⟩ 4000000 [(.exit 0,⟨[vX 0,vX 1],[(0,[sI,sW (.sl 3 [.int .i64]) 4000000]),(1,[sI,sW (.sl 3 [.int .i64]) 4000001])],[4000000,4000001]⟩)] 3 Ok Tryz.func302 0
def Alk:An:=Ao [g_1,g_0] (fun d=>(Aeu d.1 d.2.1).val) (Fo g_7)
theorem Ata:Fq 246 Alk:=mkF [Fz 47 Ci,Fz 302 A9s] ⟨Cc,Bnz,trivial⟩ Tryz.func246 0
def A4o:An:=Ao [g_1,g_0,g_0] (fun d=>(Adv d.1 d.2.1 d.2.2.1).val) (Fo g_8)
theorem Bj1:Fq 170 A4o:=mkF [Fz 47 Ci,Fz 246 Alk] ⟨Cc,Ata,trivial⟩ Tryz.func170 0
def Az1:An:=Ao [Ee] (fun d=>(Aiq d.1).val) (Fo H1)
theorem Bh8:Fq 172 Az1:=mkF [] trivial Tryz.func172 0
def A4p:An:=Ao [g_0,g_1,Ee,E7] (fun d=>(Adw d.1 d.2.1 d.2.2.1 d.2.2.2.1).val) (Fo Ki)
theorem Bj2:Fq 60 A4p:=mkF [Fz 84 Aes,Fz 47 Ci,Fz 48 H3,Fz 166 Nz,Fz 171 Az0,Fz 170 A4o,Fz 172 Az1] ⟨Agx,Cc,Hx,Oi,Bh7,Bj1,Bh8,trivial⟩ Tryz.func60 0
def A4q:An:=Ao [Kj,Ki] (fun d=>(Ano d.1 d.2.1).val) fun r=>([rv Kj r.1,rv g_1 r.2],[])
theorem Bj3:Fq 61 A4q:=mkF [Fz 157 Am7,Fz 82 Azi,Fz 173 Z7,Fz 59 Agw,Fz 174 A6b,Fz 175 Vu] ⟨Ay9,A9k,Adq,Ane,Bfi,Z4,trivial⟩ Tryz.func61 0
def A6w:An:=Ao [g_0,g_0,g_0] (fun d=>(A6x d.1 d.2.1 d.2.2.1).val) (Fo Ams)
theorem Bfu:Fq 62 A6w:=mkF [] trivial Tryz.func62 0
def Afp:An:=Ao [g_1] (fun d=>(Afq d.1).val) (Fo g_0)
theorem Aqc:Fq 221 Afp:=mkF [Fz 47 Ci,Fz 165 Ln] ⟨Cc,Ku,trivial⟩ Tryz.func221 0
def Aaf:An:=Ao [g_1,g_0,g_1,g_1] (fun d=>(Atb d.1 d.2.1 d.2.2.1 d.2.2.2.1).val) (Fo g_0)
theorem Adx:Fq 257 Aaf:=mkF [Fz 47 Ci,Fz 165 Ln] ⟨Cc,Ku,trivial⟩ Tryz.func257 0
def A4r:An:=Ao [g_0,g_0,g_1] (fun d=>(Anp d.1 d.2.1 d.2.2.1).val) (Fo g_0)
theorem Bj4:Fq 352 A4r:=mkF [Fz 47 Ci,Fz 165 Ln,Fz 243 Acf] ⟨Cc,Ku,Aet,trivial⟩ Tryz.func352 0
def A9t:An:=Ao [g_0,g_0,g_1] (fun d=>(Atc d.1 d.2.1 d.2.2.1).val) (Fo g_0)
theorem Bn0:Fq 323 A9t:=Cb [Fz 47 Ci,Fz 352 A4r] ⟨Cc,Bj4,trivial⟩ ⟨[vS 0 sB,vS 1 sB,vI 2,vS 7 (sO 6000000),vI 8],[],[6000000]⟩ 6000000 [(.exit 0,⟨[vI 2,vS 7 (sO 6000000)],[],[6000000]⟩)] 5 Ol Tryz.func323 0
def Bc5:An:=Ao [g_0,g_0,g_0] (fun d=>(Bc6 d.1 d.2.1 d.2.2.1).val) (Fo g_0)
theorem Bj5:Fq 282 Bc5:=Cb [Fz 323 A9t] ⟨Bn0,trivial⟩ ⟨[vS 2 sB,vS 7 (sO 7000000),vS 8 (sO 7000001),vI 9],[],[7000000,7000001]⟩ 7000000 [(.exit 0,⟨[vS 7 (sO 7000000)],[],[7000000]⟩)] 6 X9 Tryz.func282 0
def Om:An:=Ao [g_1,E7] (fun d=>(Air d.1 d.2.1).val) (Fo g_0)
theorem Ra:Fq 182 Om:=mkF [Fz 47 Ci,Fz 166 Nz,Fz 67 Qj,Fz 257 Aaf] ⟨Cc,Oi,Rs,Adx,trivial⟩ Tryz.func182 0
def Bj6:An:=Ao [g_0,g_1,g_0,g_1,g_1,g_1,g_0] (fun d=>(Atd d.1 d.2.1 d.2.2.1 d.2.2.2.1 d.2.2.2.2.1 d.2.2.2.2.2.1 d.2.2.2.2.2.2.1).val) fun r=>([rv E7 r.1,rv Bq r.2],[])
def Ate:Fns:=[Fz 257 Aaf,Fz 67 Qj,Fz 244 Agy,Fz 282 Bc5,Fz 182 Om,Fz 163 Ap9]
theorem Bj7:CfgOk Tryz.prog (D0 Ate):=Gq Oa J9 (show L5 Tryz.prog Ate from⟨Adx,Rs,Anf,Bj5,Ra,As6,trivial⟩)
def A9u:Sk:=⟨[vS 0 sB,vI 1,vX 14,vX 17,vI 18],[(14,[sI,sI,sO 7000000,sO 7000001,sI,sO 7000002,sO 7000003,sI,sI,sO 7000004,sO 7000005]),(17,[sI,sI,sO 7000006,sO 7000007,sI,sO 7000008,sO 7000009,sI,sI,sO 7000010,sO 7000011])],[7000000,7000001,7000002,7000003,7000004,7000005,7000006,7000007,7000008,7000009,7000010,7000011]⟩
def A9v:List (Ex×Sk):=[(.exit 0,⟨[vS 0 sB,vI 1,vX 14,vX 17],[(14,[sI,sI,sO 7000000,sO 7000001,sI,sO 7000002,sO 7000003,sI,sI,sO 7000004,sO 7000005]),(17,[sI,sI,sO 7000006,sO 7000007,sI,sO 7000008,sO 7000009,sI,sI,sO 7000010,sO 7000011])],[7000000,7000001,7000002,7000003,7000004,7000005,7000006,7000007,7000008,7000009,7000010,7000011]⟩)]
def A6y:Gt:=fun i st=>cond (Nat.beq i 6) (lam A9u 7000000 A9v Qk st) <| .fail
theorem Bn1 (cx:Cx) (hp:cx.pin.length<=0):Ec Tryz.prog cx Tryz.f220.ntmps A6y (Ba Tryz.f220 0):=Fl Bj7 hp (Do (by kernel_rfl:Bz (Ba Tryz.f220 0)=[]) trivial) (by kernel_rfl) (fun d=>(by kernel_rfl:bod (D0 Ate) 0 Tryz.f220.ntmps A6y (Ba Tryz.f220 0) A9u 7000000 A9v d=Qk d))
theorem Bue:Fq 220 Bj6:=Qh Bj7 Tryz.func220 (by kernel_rfl) (by kernel_rfl) (fun cx b hp hb=>Do (by kernel_rfl:Bz (Tryz.f220.body.getD .skip)=[Ba Tryz.f220 0]) ⟨Bn1 cx hp,trivial⟩ b hb) (fun d=>(by kernel_rfl:H2 (D0 Ate) 0 A6y Tryz.f220 .plain (mkA [g_0,g_1,g_0,g_1,g_1,g_1,g_0] d)=(Atd d.1 d.2.1 d.2.2.1 d.2.2.2.1 d.2.2.2.2.1 d.2.2.2.2.2.1 d.2.2.2.2.2.2.1).run fun r=>some ([rv E7 r.1,rv Bq r.2],[])))
def A9w:An:=Ao [g_7,g_1,g_0,g_1,g_0] (fun d=>(Atf d.1 d.2.1 d.2.2.1 d.2.2.2.1 d.2.2.2.2.1).val) fun r=>([rv g_7 r.1,rv E7 r.2.1,rv g_1 r.2.2],[])
theorem Bn2:Fq 262 A9w:=mkF [Fz 305 Z1,Fz 304 Asw,Fz 257 Aaf,Fz 67 Qj,Fz 244 Agy,Fz 220 Bj6] ⟨Ado,Azh,Adx,Rs,Anf,Bue,trivial⟩ Tryz.func262 0
def Ais:An:=Ao [g_8,g_1,g_0] (fun d=>(Ait d.1 d.2.1 d.2.2.1).val) fun r=>([rv g_8 r.1,rv E7 r.2.1,rv g_1 r.2.2],[])
theorem Ax0:Fq 186 Ais:=mkF [Fz 253 Nw,Fz 251 Mq,Fz 262 A9w] ⟨Oh,Ny,Bn2,trivial⟩ Tryz.func186 0
def Bc7:An:=Ao [g_8] (fun d=>(Bc8 d.1).val) fun r=>([rv g_8 r.1,rv E7 r.2.1,rv g_1 r.2.2],[])
theorem Bj8:Fq 178 Bc7:=mkF [Fz 251 Mq,Fz 253 Nw,Fz 221 Afp,Fz 186 Ais] ⟨Ny,Oh,Aqc,Ax0,trivial⟩ Tryz.func178 0
def Anq:An:=Ao [g_8,E7] (fun d=>(Anr d.1 d.2.1).val) (Fo Ams)
theorem Az2:Fq 179 Anq:=mkF [Fz 182 Om,Fz 55 A6t] ⟨Ra,Bfp,trivial⟩ Tryz.func179 0
def A4s:An:=Ao [Ki] (fun d=>(Ant d.1).val) fun r=>([rv Ki r.1,rv Sf r.2.1,rv Vq r.2.2],[])
theorem Bj9:Fq 66 A4s:=mkF [Fz 175 Vu,Fz 173 Z7,Fz 178 Bc7,Fz 179 Anq] ⟨Z4,Adq,Bj8,Az2,trivial⟩ Tryz.func66 0
def A4t:An:=Ao [g_1] (fun d=>(Anu d.1).val) (Fo g_1)
theorem Bka:Fq 339 A4t:=mkF [] trivial Tryz.func339 0
def Atg:An:=Ao [g_6,g_1] (fun d=>(Ath d.1 d.2.1).val) (Fo Bq)
theorem A4u:Fq 307 Atg:=mkF [Fz 337 Azd,Fz 47 Ci,Fz 339 A4t,Fz 340 Azb] ⟨A9h,Cc,Bka,A9g,trivial⟩ Tryz.func307 0
def A9x:An:=Ao [g_0,g_1,E7] (fun d=>(Ati d.1 d.2.1 d.2.2.1).val) fun r=>([rv g_0 r.1,rv Bq r.2],[])
theorem Bn3:Fq 308 A9x:=mkF [Fz 182 Om,Fz 163 Ap9,Fz 168 Ads,Fz 257 Aaf,Fz 282 Bc5] ⟨Ra,As6,Ain,Adx,Bj5,trivial⟩ Tryz.func308 0
def A9y:An:=Ao [g_6,g_1] (fun d=>(Atj d.1 d.2.1).val) fun r=>([rv g_6 r.1,rv Bq r.2],[])
theorem Bn4:Fq 309 A9y:=Cb [Fz 338 Asr,Fz 307 Atg] ⟨A4f,A4u,trivial⟩ ⟨[vI 1,vX 2,vX 4,vX 6,vI 7,vI 8],[(2,[sI,sL]),(4,[sI,sW (.sl 3 [.int .i64]) 7000000]),(6,[sI,sW (.sl 3 [.int .i64]) 7000001])],[7000000,7000001]⟩ 7000000 [(.exit 0,⟨[vI 1,vX 2,vX 4,vX 6],[(2,[sI,sL]),(4,[sI,sW (.sl 3 [.int .i64]) 7000000]),(6,[sI,sW (.sl 3 [.int .i64]) 7000001])],[7000000,7000001]⟩)] 6 On Tryz.func309 0
def A9z:An:=Ao [g_7,g_1,E7] (fun d=>(Atk d.1 d.2.1 d.2.2.1).val) fun r=>([rv g_7 r.1,rv g_0 r.2.1,rv g_1 r.2.2],[])
theorem Bn5:Fq 256 A9z:=mkF [Fz 305 Z1,Fz 304 Asw,Fz 182 Om,Fz 307 Atg,Fz 308 A9x,Fz 309 A9y] ⟨Ado,Azh,Ra,A4u,Bn3,Bn4,trivial⟩ Tryz.func256 0
def Az3:An:=Ao [g_8,g_1,E7] (fun d=>(Aag d.1 d.2.1 d.2.2.1).val) fun r=>([rv g_8 r.1,rv g_0 r.2.1,rv g_1 r.2.2],[])
theorem Bh9:Fq 180 Az3:=mkF [Fz 253 Nw,Fz 251 Mq,Fz 47 Ci,Fz 166 Nz,Fz 67 Qj,Fz 65 Qi,Fz 256 A9z,Fz 246 Alk] ⟨Oh,Ny,Cc,Oi,Rs,Rr,Bn5,Ata,trivial⟩ Tryz.func180 0
def A90:An:=Ao [g_8,g_1] (fun d=>(Atl d.1 d.2.1).val) fun r=>([rv g_0 r.1,rv Bq r.2],[])
theorem Bn6:Fq 181 A90:=mkF [Fz 251 Mq] ⟨Ny,trivial⟩ Tryz.func181 0
def A91:An:=Ao [H1,Ee] (fun d=>(Atm d.1 d.2.1).val) fun r=>([rv g_9 r.1,rv Bq r.2],[])
theorem Bn7:Fq 258 A91:=Cb [Fz 252 Vv,Fz 259 Vs] ⟨Z6,Z2,trivial⟩ ⟨[vX 2,vX 3,vX 4,vI 6],[(2,[sI,sI,sR (.sl 228 h_4)]),(3,[sI,sI]),(4,[sI,sI,sO 5000000,sI])],[5000000]⟩ 5000000 [(.ret,⟨[vX 4,(5,.v false [(.bool,.nil)])],[(4,[sI,sI,sO 5000000,sI])],[5000000]⟩),(.exit 0,⟨[vX 4],[(4,[sI,sI,sO 5000000,sI])],[5000000]⟩)] 4 Oo Tryz.func258 0
def A92:An:=Ao [H1,g_1,Ee,g_0] (fun d=>(Atn d.1 d.2.1 d.2.2.1 d.2.2.2.1).val) fun r=>([rv H1 r.1,rv Bq r.2],[])
theorem Bn8:Fq 183 A92:=Cb [Fz 258 A91,Fz 47 Ci,Fz 65 Qi,Fz 254 Vt,Fz 259 Vs] ⟨Bn7,Cc,Rr,Z3,Z2,trivial⟩ ⟨[vX 4,vX 6,vX 8,vX 12,vI 13],[(4,[sI,sI,sR (.sl 228 h_4)]),(6,[sI,sI]),(8,[sI,sI,sW (.sl 228 h_4) 7000000]),(12,[sI,sI,sW (.sl 228 h_4) 7000001])],[7000000,7000001]⟩ 7000000 [(.exit 0,⟨[vX 8,vX 12],[(8,[sI,sI,sW (.sl 228 h_4) 7000000]),(12,[sI,sI,sW (.sl 228 h_4) 7000001])],[7000000,7000001]⟩)] 6 Oq Tryz.func183 0
def Bkb:An:=Ao [g_8] (fun d=>(A6z d.1).val) fun r=>([rv g_8 r.1,rv Bq r.2],[])
theorem Buf:Fq 260 Bkb:=mkF [Fz 253 Nw,Fz 251 Mq,Fz 176 Aae,Fz 246 Alk] ⟨Oh,Ny,Adu,Ata,trivial⟩ Tryz.func260 0
def Ax1:An:=Ao [g_8,g_1,g_0] (fun d=>(Afr d.1 d.2.1 d.2.2.1).val) fun r=>([rv g_8 r.1,rv g_1 r.2],[])
theorem Bc9:Fq 184 Ax1:=mkF [Fz 253 Nw,Fz 251 Mq,Fz 47 Ci,Fz 221 Afp,Fz 65 Qi,Fz 260 Bkb] ⟨Oh,Ny,Cc,Aqc,Rr,Buf,trivial⟩ Tryz.func184 0
def Az4:An:=Ao [H1,g_1] (fun d=>(Aiu d.1 d.2.1).val) (Fo H1)
theorem Bia:Fq 261 Az4:=Cb [Fz 252 Vv,Fz 47 Ci,Fz 254 Vt,Fz 259 Vs] ⟨Z6,Cc,Z3,Z2,trivial⟩ ⟨[vI 1,vX 2,vX 4,vX 5,vI 6],[(2,[sI,sI,sR (.sl 228 h_4)]),(4,[sI,sI,sW (.sl 228 h_4) 6000000]),(5,[sI,sI,sW (.sl 228 h_4) 6000001])],[6000000,6000001]⟩ 6000000 [(.exit 0,⟨[vX 4,vX 5],[(4,[sI,sI,sW (.sl 228 h_4) 6000000]),(5,[sI,sI,sW (.sl 228 h_4) 6000001])],[6000000,6000001]⟩)] 5 K8 Tryz.func261 0
def Bfv:An:=Ao [H1,g_1,Ee,g_0] (fun d=>(Az5 d.1 d.2.1 d.2.2.1 d.2.2.2.1).val) fun r=>([rv H1 r.1,rv Bq r.2],[])
theorem Brl:Fq 185 Bfv:=Cb [Fz 252 Vv,Fz 47 Ci,Fz 48 H3,Fz 254 Vt,Fz 261 Az4] ⟨Z6,Cc,Hx,Z3,Bia,trivial⟩ ⟨[vI 1,vS 3 sB,vX 4,vX 6,vX 8,vX 10,vI 11],[(4,[sI,sI,sR (.sl 228 h_4)]),(6,[sI,sI]),(8,[sI,sI,sW (.sl 228 h_4) 6000000]),(10,[sI,sI,sW (.sl 228 h_4) 6000001])],[6000000,6000001]⟩ 6000000 [(.ret,⟨[vX 8,(9,.v false [(.bool,.nil)])],[(8,[sI,sI,sW (.sl 228 h_4) 6000000])],[6000000]⟩),(.exit 0,⟨[vI 1,vS 3 sB,vX 4,vX 6,vX 8,vX 10],[(4,[sI,sI,sR (.sl 228 h_4)]),(6,[sI,sI]),(8,[sI,sI,sW (.sl 228 h_4) 6000000]),(10,[sI,sI,sW (.sl 228 h_4) 6000001])],[6000000,6000001]⟩)] 5 Rv Tryz.func185 0
def Az6:An:=Ao [Ki,g_1,Ee,E7,g_0] (fun d=>(Aiv d.1 d.2.1 d.2.2.1 d.2.2.2.1 d.2.2.2.2.1).val) fun r=>([rv Ki r.1,rv Sf r.2.1,rv Vq r.2.2.1,rv Bq r.2.2.2],[])
theorem Bib:Fq 68 Az6:=mkF [Fz 175 Vu,Fz 173 Z7,Fz 48 H3,Fz 180 Az3,Fz 181 A90,Fz 182 Om,Fz 62 A6w,Fz 183 A92,Fz 184 Ax1,Fz 178 Bc7,Fz 179 Anq,Fz 185 Bfv,Fz 186 Ais] ⟨Z4,Adq,Hx,Bh9,Bn6,Ra,Bfu,Bn8,Bc9,Bj8,Az2,Brl,Ax0,trivial⟩ Tryz.func68 0
def A93:An:=Ao [E7] (fun d=>(Ato d.1).val) (Fo g_1)
theorem Bn9:Fq 188 A93:=mkF [Fz 128 Aif] ⟨Axx,trivial⟩ Tryz.func188 0
def Bfw:An:=Ao [Ll,Ee,g_1] (fun d=>(Az7 d.1 d.2.1 d.2.2.1).val) fun r=>([rv Ll r.1,rv Bq r.2],[])
theorem Brm:Fq 187 Bfw:=mkF [Fz 158 Alf,Fz 83 Q6,Fz 161 Anh,Fz 47 Ci] ⟨As1,Uj,Azo,Cc,trivial⟩ Tryz.func187 0
def A94:An:=Ao [Hv,Sf] (fun d=>(Atp d.1 d.2.1).val) fun r=>([rv Sf r.1],[rv Hv r.2])
theorem Boa:Fn Tryz.prog 69 (.box [3] false false) A94:=Cb [Fz 160 A6l,Fz 188 A93,Fz 187 Bfw] ⟨Bfk,Bn9,Brm,trivial⟩ ⟨[vX 0,vS 1 (sR (.sl 85 Xd)),(5,.v false [(.sl 85 Xd,(.row 4000000))]),vI 6],[(0,[(.sl 22 [.sl 5 [.int .u8]],(.pin 0)),(.sl 5 [.int .u8],(.pin 1)),(.sl 5 [.int .u8],(.pin 2)),sI,sI,(.sl 113 D6,(.pin 5)),(.sl 175 h_2,.rd)])],[4000000]⟩ 4000000 [(.exit 0,⟨[vX 0,(5,.v false [(.sl 85 Xd,(.row 4000000))])],[(0,[(.sl 22 [.sl 5 [.int .u8]],(.pin 0)),(.sl 5 [.int .u8],(.pin 1)),(.sl 5 [.int .u8],(.pin 2)),sI,sI,(.sl 113 D6,(.pin 5)),(.sl 175 h_2,.rd)])],[4000000]⟩)] 3 Ot Tryz.func69 1
def Aqd:An:=Ao [Hv,g_1,Ee,g_0] (fun d=>(Un d.1 d.2.1 d.2.2.1 d.2.2.2.1).val) fun r=>([rv Hv r.1,rv Sf r.2.1,rv Vq r.2.2],[])
theorem A95:Fn Tryz.prog 8 (.vgive [2,0,0,2]) Aqd:=mkF [Fz 46 A4g,Fz 11 Azl,Fz 47 Ci,Fz 48 H3,Fz 49 Bjs,Fz 50 Azn,Fz 51 A9n,Fz 52 Bjw,Fz 53 A6r,Fz 54 Axz,Fz 56 Ail,Fz 55 A6t,Fz 57 Bfr,Fz 58 A4m,Fz 59 Agw,Fz 60 A4p,Fz 61 A4q,Fz 62 A6w,Fz 63 Afl,Fz 64 Afn,Fz 65 Qi,Fz 66 A4s,Fz 67 Qj,Fz 68 Az6,(69,(.box [3] false false),A94)] ⟨Bjp,Bh1,Cc,Hx,Bub,Bh2,Bnw,Buc,Bfo,Bc4,Axy,Bfp,Bri,Bjz,Ane,Bj2,Bj3,Bfu,Aqa,Aqb,Rr,Bj9,Rs,Bib,Boa,trivial⟩ Tryz.func8 0
def Cv:An:=Ao [g_0] (fun d=>(Az8 d.1).val) (Fo g_0)
theorem Cp:Fq 134 Cv:=mkF [] trivial Tryz.func134 0
def Az9:An:=Ao [g_2] (fun d=>(Aiw d.1).val) (Fo g_2)
theorem Bic:Fq 133 Az9:=Cb [Fz 134 Cv] ⟨Cp,trivial⟩ ⟨[vS 3 (sW (.sl 22 [.sl 5 [.int .u8]]) 4000000),vS 7 (sR (.sl 22 [.sl 5 [.int .u8]])),vI 8,vI 9],[],[4000000]⟩ 4000000 [(.exit 0,⟨[vS 3 (sW (.sl 22 [.sl 5 [.int .u8]]) 4000000)],[],[4000000]⟩)] 3 K9 Tryz.func133 0
def Anv:An:=Ao [g_6] (fun d=>(Anw d.1).val) (Fo g_6)
theorem A0a:Fq 353 Anv:=mkF [] trivial Tryz.func353 0
def Agz:An:=Ao [g_7] (fun d=>(Atq d.1).val) (Fo g_7)
theorem Anx:Fq 324 Agz:=mkF [Fz 134 Cv,Fz 353 Anv] ⟨Cp,A0a,trivial⟩ Tryz.func324 0
def Lo:An:=Ao [g_8] (fun d=>(Aix d.1).val) (Fo g_8)
theorem Mf:Fq 283 Lo:=mkF [Fz 134 Cv,Fz 324 Agz] ⟨Cp,Anx,trivial⟩ Tryz.func283 0
def Rb:An:=Ao [H1] (fun d=>(Afs d.1).val) (Fo H1)
theorem Uo:Fq 284 Rb:=Cb [Fz 134 Cv] ⟨Cp,trivial⟩ ⟨[vX 2,vX 3,vS 10 (sR (.sl 228 h_4)),vI 11,vI 12],[(2,[sI,sI,sW (.sl 228 h_4) 4000000]),(3,[sI,sI,sW (.sl 228 h_4) 4000001])],[4000000,4000001]⟩ 4000000 [(.exit 0,⟨[vX 2,vX 3],[(2,[sI,sI,sW (.sl 228 h_4) 4000000]),(3,[sI,sI,sW (.sl 228 h_4) 4000001])],[4000000,4000001]⟩)] 3 Jx Tryz.func284 0
def Ou:An:=Ao [Ki] (fun d=>(Aiy d.1).val) (Fo Ki)
theorem Rc:Fq 222 Ou:=mkF [Fz 134 Cv,Fz 283 Lo,Fz 284 Rb] ⟨Cp,Mf,Uo,trivial⟩ Tryz.func222 0
def Ady:An:=Ao [Kj] (fun d=>(Any d.1).val) (Fo Kj)
theorem Aiz:Fq 135 Ady:=Cb [Fz 222 Ou] ⟨Rc,trivial⟩ ⟨[vX 2,vX 3,vS 10 (sR (.sl 113 D6)),vI 11,vI 12],[(2,[sI,sW (.sl 113 D6) 4000000]),(3,[sI,sW (.sl 113 D6) 4000001])],[4000000,4000001]⟩ 4000000 [(.exit 0,⟨[vX 2,vX 3],[(2,[sI,sW (.sl 113 D6) 4000000]),(3,[sI,sW (.sl 113 D6) 4000001])],[4000000,4000001]⟩)] 3 Mg Tryz.func135 0
def Si:An:=Ao [Ll] (fun d=>(Aah d.1).val) (Fo Ll)
theorem Xf:Fq 136 Si:=mkF [] trivial Tryz.func136 0
def Aqe:An:=Ao [Hv] (fun d=>(Acg d.1).val) (Fo Hv)
theorem A96:Fq 35 Aqe:=mkF [Fz 133 Az9,Fz 134 Cv,Fz 135 Ady,Fz 136 Si] ⟨Bic,Cp,Aiz,Xf,trivial⟩ Tryz.func35 0
def B6:An:=Ao [g_1,g_1,g_1] (fun d=>(Atr d.1 d.2.1 d.2.2.1).val) (Fo Bq)
theorem Bx:Fq 36 B6:=mkF [] trivial Tryz.func36 0
def All:An:=Ao [g_3] (fun d=>(Bfx d.1).val) (Fo Bq)
theorem Ats:Fq 75 All:=mkF [] trivial Tryz.func75 0
def Att:An:=Ao [g_4] (fun d=>(Atu d.1).val) (Fo Bq)
theorem A4v:Fq 76 Att:=mkF [Fz 36 B6] ⟨Bx,trivial⟩ Tryz.func76 0
def A60:An:=Ao [Kj] (fun d=>(Atv d.1).val) (Fo g_1)
theorem Bfy:Fq 195 A60:=Cb [] trivial ⟨[vI 3,vS 7 (sR (.sl 113 D6)),vI 8,vI 9],[],[]⟩ 4000000 [(.exit 0,⟨[vI 3],[],[]⟩)] 3 Kk Tryz.func195 0
def Gv:An:=Ao [g_0] (fun d=>(A4w d.1).val) (Fo Bq)
theorem Gw:Fq 190 Gv:=mkF [] trivial Tryz.func190 0
def Hb:An:=Ao [g_0,g_0] (fun d=>(Ax2 d.1 d.2.1).val) (Fo Bq)
theorem Hl:Fq 73 Hb:=mkF [] trivial Tryz.func73 0
def A0b:An:=Ao [g_5,g_5] (fun d=>(Ai0 d.1 d.2.1).val) (Fo Bq)
theorem Bid:Fq 341 A0b:=Cb [] trivial ⟨[vS 1 sL,vS 12 sL,vI 13,vI 14],[],[]⟩ 5000000 [(.ret,⟨[(4,.v false [(.bool,.nil)])],[],[]⟩),(.exit 0,⟨[],[],[]⟩)] 4 Aqf Tryz.func341 0
def Atw:An:=Ao [g_7,g_7] (fun d=>(Atx d.1 d.2.1).val) (Fo Bq)
theorem A4x:Fq 310 Atw:=mkF [Fz 73 Hb,Fz 341 A0b] ⟨Hl,Bid,trivial⟩ Tryz.func310 0
def Aqg:An:=Ao [g_8] (fun d=>(Ach d.1).val) (Fo Bq)
theorem A97:Fq 264 Aqg:=mkF [Fz 310 Atw] ⟨A4x,trivial⟩ Tryz.func264 0
def Up:An:=Ao [g_1] (fun d=>(Aty d.1).val) (Fo Bq)
theorem V0:Fq 287 Up:=mkF [] trivial Tryz.func287 0
def Aai:An:=Ao [g_5,g_1] (fun d=>(Ai1 d.1 d.2.1).val) (Fo Bq)
theorem Aft:Fq 363 Aai:=Cb [Fz 36 B6] ⟨Bx,trivial⟩ ⟨[vS 0 sL,vI 1,vS 7 sL,vI 8,vI 9],[],[]⟩ 3000000 [(.ret,⟨[(4,.v false [(.bool,.nil)])],[],[]⟩),(.exit 0,⟨[vS 0 sL,vI 1],[],[]⟩)] 2 Ov Tryz.func363 0
def Atz:An:=Ao [g_6,g_1] (fun d=>(At0 d.1 d.2.1).val) (Fo Bq)
theorem A4y:Fq 364 Atz:=mkF [] trivial Tryz.func364 0
def A0c:An:=Ao [g_6] (fun d=>(A0d d.1).val) (Fo Bq)
theorem A98:Fq 342 A0c:=Cb [Fz 36 B6,Fz 363 Aai,Fz 364 Atz] ⟨Bx,Aft,A4y,trivial⟩ ⟨[vX 1,vI 3],[(1,[sI,sL])],[]⟩ 5000000 [eB,(.exit 0,⟨[vX 1],[(1,[sI,sL])],[]⟩)] 4 Rw Tryz.func342 0
def Ai2:An:=Ao [g_7] (fun d=>(A61 d.1).val) (Fo Bq)
theorem Alm:Fq 311 Ai2:=mkF [Fz 36 B6,Fz 342 A0c] ⟨Bx,A98,trivial⟩ Tryz.func311 0
def Bfz:An:=Ao [g_8] (fun d=>(A0e d.1).val) (Fo Bq)
theorem Brn:Fq 312 Bfz:=mkF [Fz 310 Atw,Fz 311 Ai2,Fz 36 B6] ⟨A4x,Alm,Bx,trivial⟩ Tryz.func312 0
def Mr:An:=Ao [g_8] (fun d=>(At1 d.1).val) (Fo Bq)
theorem N0:Fq 265 Mr:=mkF [Fz 287 Up,Fz 190 Gv,Fz 311 Ai2,Fz 312 Bfz] ⟨V0,Gw,Alm,Brn,trivial⟩ Tryz.func265 0
def H6:An:=Ao [Ee] (fun d=>(At2 d.1).val) (Fo Bq)
theorem Hy:Fq 37 H6:=mkF [Fz 36 B6] ⟨Bx,trivial⟩ Tryz.func37 0
def Adz:An:=Ao [H1] (fun d=>(Ad0 d.1).val) (Fo Bq)
def V2:Fns:=[Fz 37 H6,Fz 190 Gv,Fz 36 B6]
theorem Anz:CfgOk Tryz.prog (D0 V2):=Gq Oa J9 (show L5 Tryz.prog V2 from⟨Hy,Gw,Bx,trivial⟩)
def Ax3:Sk:=⟨[vX 1,vS 18 (sR (.sl 228 h_4)),vI 19,vI 20],[(1,[sI,sI,sR (.sl 228 h_4)])],[]⟩
def Ax4:List (Ex×Sk):=[eB,(.exit 0,⟨[],[],[]⟩)]
def Ax5:Sk:=⟨[vX 1,vX 4,vS 18 (sR (.sl 228 h_4)),vI 19,vI 20,vS 51 (sR (.sl 228 h_4)),vI 52,vI 53],[(1,[sI,sI,sR (.sl 228 h_4)]),(4,[sI,sI,sB,sI])],[]⟩
def Ax6:List (Ex×Sk):=[eB,(.exit 2,⟨[vX 1,vS 18 (sR (.sl 228 h_4)),vI 19,vI 20],[(1,[sI,sI,sR (.sl 228 h_4)])],[]⟩)]
def V3:Gt:=fun i st=>cond (Nat.beq i 9) (lam Ax5 10000000 Ax6 J5 st) <| cond (Nat.beq i 4) (lam Ax3 5000000 Ax4 Mh st) <| .fail
theorem Bda (cx:Cx) (hp:cx.pin.length<=0):Ec Tryz.prog cx Tryz.f266.ntmps V3 (Ba Tryz.f266 1):=Fl Anz hp (Do (by kernel_rfl:Bz (Ba Tryz.f266 1)=[]) trivial) (by kernel_rfl) (fun d=>(by kernel_rfl:bod (D0 V2) 0 Tryz.f266.ntmps V3 (Ba Tryz.f266 1) Ax5 10000000 Ax6 d=J5 d))
theorem Bdb (cx:Cx) (hp:cx.pin.length<=0):Ec Tryz.prog cx Tryz.f266.ntmps V3 (Ba Tryz.f266 0):=Fl Anz hp (Do (by kernel_rfl:Bz (Ba Tryz.f266 0)=[Ba Tryz.f266 1]) ⟨Bda cx hp,trivial⟩) (by kernel_rfl) (fun d=>(by kernel_rfl:bod (D0 V2) 0 Tryz.f266.ntmps V3 (Ba Tryz.f266 0) Ax3 5000000 Ax4 d=Mh d))
theorem Ai3:Fq 266 Adz:=Qh Anz Tryz.func266 (by kernel_rfl) (by kernel_rfl) (fun cx b hp hb=>Do (by kernel_rfl:Bz (Tryz.f266.body.getD .skip)=[Ba Tryz.f266 0]) ⟨Bdb cx hp,trivial⟩ b hb) (fun d=>(by kernel_rfl:H2 (D0 V2) 0 V3 Tryz.f266 .plain (mkA [H1] d)=(Ad0 d.1).run fun r=>some ([rv Bq r],[])))
def Aaj:An:=Ao [Ki] (fun d=>(At3 d.1).val) (Fo Bq)
theorem Ad1:Fq 196 Aaj:=mkF [Fz 36 B6,Fz 190 Gv,Fz 264 Aqg,Fz 265 Mr,Fz 73 Hb,Fz 266 Adz] ⟨Bx,Gw,A97,N0,Hl,Ai3,trivial⟩ Tryz.func196 0
def Aak:An:=Ao [Kj,g_0] (fun d=>(At4 d.1 d.2.1).val) (Fo g_1)
theorem Ad2:Fq 146 Aak:=Cb [Fz 73 Hb] ⟨Hl,trivial⟩ ⟨[vS 1 sB,vS 8 (sR (.sl 113 D6)),vI 9,vI 10],[],[]⟩ 3000000 [(.ret,⟨[vI 4],[],[]⟩),(.exit 0,⟨[],[],[]⟩)] 2 S6 Tryz.func146 0
def Aln:An:=Ao [Kj] (fun d=>(A0f d.1).val) (Fo Bq)
theorem At5:Fq 77 Aln:=Cb [Fz 36 B6,Fz 195 A60,Fz 196 Aaj,Fz 146 Aak] ⟨Bx,Bfy,Ad1,Ad2,trivial⟩ ⟨[vX 1,vS 23 (sR (.sl 113 D6)),vI 24,vI 25],[(1,[sI,sR (.sl 113 D6)])],[]⟩ 5000000 [eB,(.exit 0,⟨[],[],[]⟩)] 4 V4 Tryz.func77 0
def S7:An:=Ao [Ll,Ee] (fun d=>(Ai4 d.1 d.2.1).val) (Fo g_1)
theorem Wy:Fq 137 S7:=Cb [] trivial ⟨[vX 3,vS 7 (sR (.sl 175 h_2)),vI 8,vI 9],[(3,[sI,sI])],[]⟩ 3000000 [(.ret,⟨[vI 4],[],[]⟩),(.exit 0,⟨[],[],[]⟩)] 2 Ow Tryz.func137 0
def Rd:An:=Ao [Ll] (fun d=>(Afu d.1).val) (Fo Bq)
theorem Uq:Fq 78 Rd:=Cb [Fz 37 H6,Fz 36 B6,Fz 137 S7] ⟨Hy,Bx,Wy,trivial⟩ ⟨[vS 0 (sR (.sl 175 h_2)),vS 8 (sR (.sl 175 h_2)),vI 9,vI 10],[],[]⟩ 5000000 [eB,(.exit 0,⟨[],[],[]⟩)] 4 Ms Tryz.func78 0
def Aev:An:=Ao [g_0] (fun d=>(A0g d.1).val) (Fo Bq)
theorem Ag0:Fq 79 Aev:=mkF [Fz 36 B6] ⟨Bx,trivial⟩ Tryz.func79 0
def A0h:An:=Ao [Hv] (fun d=>(Aal d.1).val) (Fo Bq)
def S8:Fns:=[Fz 36 B6,Fz 75 All,Fz 76 Att,Fz 77 Aln,Fz 78 Rd,Fz 79 Aev]
theorem Ai5:CfgOk Tryz.prog (D0 S8):=Gq Oa J9 (show L5 Tryz.prog S8 from⟨Bx,Ats,A4v,At5,Uq,Ag0,trivial⟩)
def Alo:Sk:=⟨[vX 1,vS 49 (sR (.sl 113 D6)),vI 50,vI 51],[(1,[sR (.sl 22 [.sl 5 [.int .u8]]),sB,sB,sI,sI,sR (.sl 113 D6),sR (.sl 175 h_2)])],[]⟩
def Alp:List (Ex×Sk):=[eB,(.exit 2,⟨[],[],[]⟩)]
def Aqh:Sk:=⟨[vX 1,vS 37 (sR (.sl 22 [.sl 5 [.int .u8]])),vI 38,vI 39],[(1,[sR (.sl 22 [.sl 5 [.int .u8]]),sB,sB,sI,sI,sR (.sl 113 D6),sR (.sl 175 h_2)])],[]⟩
def Aqi:List (Ex×Sk):=[eB,(.exit 0,⟨[vX 1],[(1,[sR (.sl 22 [.sl 5 [.int .u8]]),sB,sB,sI,sI,sR (.sl 113 D6),sR (.sl 175 h_2)])],[]⟩)]
def S9:Gt:=fun i st=>cond (Nat.beq i 4) (lam Aqh 5000000 Aqi La st) <| cond (Nat.beq i 10) (lam Alo 11000000 Alp Jy st) <| .fail
theorem A99 (cx:Cx) (hp:cx.pin.length<=0):Ec Tryz.prog cx Tryz.f10.ntmps S9 (Ba Tryz.f10 0):=Fl Ai5 hp (Do (by kernel_rfl:Bz (Ba Tryz.f10 0)=[]) trivial) (by kernel_rfl) (fun d=>(by kernel_rfl:bod (D0 S8) 0 Tryz.f10.ntmps S9 (Ba Tryz.f10 0) Aqh 5000000 Aqi d=La d))
theorem A62 (cx:Cx) (hp:cx.pin.length<=0):Ec Tryz.prog cx Tryz.f10.ntmps S9 (Ba Tryz.f10 1):=Fl Ai5 hp (Do (by kernel_rfl:Bz (Ba Tryz.f10 1)=[]) trivial) (by kernel_rfl) (fun d=>(by kernel_rfl:bod (D0 S8) 0 Tryz.f10.ntmps S9 (Ba Tryz.f10 1) Alo 11000000 Alp d=Jy d))
theorem Bie:Fq 10 A0h:=Qh Ai5 Tryz.func10 (by kernel_rfl) (by kernel_rfl) (fun cx b hp hb=>Do (by kernel_rfl:Bz (Tryz.f10.body.getD .skip)=[Ba Tryz.f10 0,Ba Tryz.f10 1]) ⟨A99 cx hp,A62 cx hp,trivial⟩ b hb) (fun d=>(by kernel_rfl:H2 (D0 S8) 0 S9 Tryz.f10 .plain (mkA [Hv] d)=(Aal d.1).run fun r=>some ([rv Bq r],[])))
def Bkc:An:=Ao [Ll,Ee,g_1] (fun d=>(A63 d.1 d.2.1 d.2.2.1).val) (Fo Ll)
theorem Bug:Fq 38 Bkc:=mkF [Fz 136 Si,Fz 78 Rd,Fz 37 H6,Fz 36 B6,Fz 137 S7] ⟨Xf,Uq,Hy,Bx,Wy,trivial⟩ Tryz.func38 0
def A0i:An:=Ao [g_3,g_1] (fun d=>(A0j d.1 d.2.1).val) fun r=>([rv g_0 r.1],[rv g_3 r.2])
theorem Baa:Fn Tryz.prog 71 (.box [3] false true) A0i:=mkF [Fz 134 Cv] ⟨Cp,trivial⟩ Tryz.func71 1
def Bpq:An:=Ao [g_0,g_1,g_1] (fun d=>(Bdc d.1 d.2.1 d.2.2.1).val) fun r=>([rv g_0 r.1,rv Bq r.2],[])
theorem Bxg:Fq 263 Bpq:=mkF [] trivial Tryz.func263 0
def A64:An:=Ao [g_0,g_1,g_1] (fun d=>(A65 d.1 d.2.1 d.2.2.1).val) fun r=>([rv g_1 r.1,rv g_1 r.2.1,rv Bq r.2.2],[])
theorem Bf0:Fq 189 A64:=Cb [Fz 263 Bpq] ⟨Bxg,trivial⟩ ⟨[vI 1,vI 2,vI 11,vS 29 (sO 9000000),vI 30,vI 31],[],[9000000]⟩ 9000000 [(.exit 0,⟨[vI 1,vI 2,vI 11],[],[]⟩)] 8 Ur Tryz.func189 0
def Bab:An:=Ao [g_3,g_1] (fun d=>(At6 d.1 d.2.1).val) fun r=>([rv g_1 r.1],[rv g_3 r.2])
theorem Bob:Fn Tryz.prog 70 (.box [3] false true) Bab:=mkF [(71,(.box [3] false true),A0i),Fz 189 A64] ⟨Baa,Bf0,trivial⟩ Tryz.func70 1
def Ql:An:=Ao [g_1] (fun d=>(At7 d.1).val) (Fo Bq)
theorem Rx:Fq 41 Ql:=mkF [Fz 36 B6] ⟨Bx,trivial⟩ Tryz.func41 0
def Bac:An:=Ao [g_1,g_1] (fun d=>(At8 d.1 d.2.1).val) (Fo Bq)
theorem Boc:Fq 191 Bac:=mkF [] trivial Tryz.func191 0
def Ax7:An:=Ao [E7,E7] (fun d=>(Afv d.1 d.2.1).val) (Fo Bq)
theorem Bdd:Fq 192 Ax7:=mkF [Fz 73 Hb] ⟨Hl,trivial⟩ Tryz.func192 0
def I4:An:=Ao [E7] (fun d=>(An0 d.1).val) (Fo Bq)
theorem Je:Fq 72 I4:=mkF [Fz 36 B6,Fz 190 Gv,Fz 41 Ql,Fz 191 Bac,Fz 192 Ax7] ⟨Bx,Gw,Rx,Boc,Bdd,trivial⟩ Tryz.func72 0
def Hc:An:=Ao [g_2] (fun d=>(At9 d.1).val) (Fo g_0)
theorem Gx:Fq 193 Hc:=Cb [] trivial ⟨[vS 3 (sO 4000000),vS 7 (sR (.sl 22 [.sl 5 [.int .u8]])),vI 8,vI 9],[],[4000000]⟩ 4000000 [(.exit 0,⟨[vS 3 (sO 4000000)],[],[4000000]⟩)] 3 Ox Tryz.func193 0
def Lp:An:=Ao [g_0,g_1,g_1] (fun d=>(Bkd d.1 d.2.1 d.2.2.1).val) (Fo g_0)
theorem Kv:Fq 194 Lp:=Cb [] trivial ⟨[vI 1,vS 7 (sO 6000000),vI 8],[],[6000000]⟩ 6000000 [(.exit 0,⟨[vS 7 (sO 6000000)],[],[6000000]⟩)] 5 Bad Tryz.func194 0
def Ai6:An:=Ao [E7] (fun d=>(Ai7 d.1).val) (Fo g_0)
theorem Ax8:Fq 74 Ai6:=mkF [Fz 72 I4,Fz 193 Hc,Fz 194 Lp] ⟨Je,Gx,Kv,trivial⟩ Tryz.func74 0
def A0k:An:=Ao [g_0] (fun d=>(Aam d.1).val) fun r=>([rv E7 r.1,rv Bq r.2],[])
theorem Bif:Fq 9 A0k:=mkF [(70,(.box [3] false true),Bab),(71,(.box [3] false true),A0i),Fz 41 Ql,Fz 72 I4,Fz 74 Ai6,Fz 73 Hb] ⟨Bob,Baa,Rx,Je,Ax8,Hl,trivial⟩ Tryz.func9 0
def A66:An:=Ao [Kj,Ee] (fun d=>(A67 d.1 d.2.1).val) (Fo Bq)
theorem Bf1:Fq 43 A66:=Cb [] trivial ⟨[vX 3,vS 8 (sR (.sl 113 D6)),vI 9,vI 10],[(3,[sI,sI])],[]⟩ 3000000 [(.ret,⟨[(4,.v false [(.bool,.nil)])],[],[]⟩),(.exit 0,⟨[],[],[]⟩)] 2 Aan Tryz.func43 0
def An1:An:=Ao [Ll,Ee] (fun d=>(Ad3 d.1 d.2.1).val) (Fo g_1)
theorem A0l:Fq 155 An1:=mkF [Fz 137 S7,Fz 78 Rd] ⟨Wy,Uq,trivial⟩ Tryz.func155 0
def Aua:An:=Ao [Hv,Ee,g_1] (fun d=>(Aub d.1 d.2.1 d.2.2.1).val) (Fo Bq)
theorem A4z:Fq 138 Aua:=mkF [Fz 43 A66,Fz 155 An1] ⟨Bf1,A0l,trivial⟩ Tryz.func138 0
def Bf2:An:=Ao [] (fun d=>(Bf3).val) (Fo g_5)
theorem Bro:Fq 376 Bf2:=mkF [] trivial Tryz.func376 0
def A40:An:=Ao [] (fun d=>(A41).val) (Fo Bjg)
theorem Bke:Fq 356 A40:=mkF [Fz 376 Bf2] ⟨Bro,trivial⟩ Tryz.func356 0
def Auc:An:=Ao [Bjg] (fun d=>(Aud d.1).val) (Fo Bq)
theorem A42:Fq 372 Auc:=mkF [Fz 363 Aai,Fz 36 B6] ⟨Aft,Bx,trivial⟩ Tryz.func372 0
def Bde:An:=Ao [g_1,g_1] (fun d=>(Bdf d.1 d.2.1).val) (Fo g_1)
theorem Bkf:Fq 384 Bde:=mkF [] trivial Tryz.func384 0
def A0m:An:=Ao [g_0] (fun d=>(Aao d.1).val) (Fo g_5)
def Ta:Fns:=[Fz 189 A64,Fz 384 Bde]
theorem Ai8:CfgOk Tryz.prog (D0 Ta):=Gq Oa J9 (show L5 Tryz.prog Ta from⟨Bf0,Bkf,trivial⟩)
def Aqj:Sk:=⟨[vS 3 (sW (.sl 3 [.int .i64]) 10000000),vI 5],[],[10000000]⟩
def Aqk:List (Ex×Sk):=[(.exit 2,⟨[vS 3 (sW (.sl 3 [.int .i64]) 10000000)],[],[10000000]⟩)]
def Aql:Sk:=⟨[vS 0 sB,vS 3 (sW (.sl 3 [.int .i64]) 6000000),vI 4],[],[6000000]⟩
def Aqm:List (Ex×Sk):=[(.exit 0,⟨[vS 3 (sW (.sl 3 [.int .i64]) 6000000)],[],[6000000]⟩)]
def Tb:Gt:=fun i st=>cond (Nat.beq i 5) (lam Aql 6000000 Aqm Lb st) <| cond (Nat.beq i 9) (lam Aqj 10000000 Aqk Lc st) <| .fail
theorem Bae (cx:Cx) (hp:cx.pin.length<=0):Ec Tryz.prog cx Tryz.f383.ntmps Tb (Ba Tryz.f383 0):=Fl Ai8 hp (Do (by kernel_rfl:Bz (Ba Tryz.f383 0)=[]) trivial) (by kernel_rfl) (fun d=>(by kernel_rfl:bod (D0 Ta) 0 Tryz.f383.ntmps Tb (Ba Tryz.f383 0) Aql 6000000 Aqm d=Lb d))
theorem Baf (cx:Cx) (hp:cx.pin.length<=0):Ec Tryz.prog cx Tryz.f383.ntmps Tb (Ba Tryz.f383 1):=Fl Ai8 hp (Do (by kernel_rfl:Bz (Ba Tryz.f383 1)=[]) trivial) (by kernel_rfl) (fun d=>(by kernel_rfl:bod (D0 Ta) 0 Tryz.f383.ntmps Tb (Ba Tryz.f383 1) Aqj 10000000 Aqk d=Lc d))
theorem Big:Fq 383 A0m:=Qh Ai8 Tryz.func383 (by kernel_rfl) (by kernel_rfl) (fun cx b hp hb=>Do (by kernel_rfl:Bz (Tryz.f383.body.getD .skip)=[Ba Tryz.f383 0,Ba Tryz.f383 1]) ⟨Bae cx hp,Baf cx hp,trivial⟩ b hb) (fun d=>(by kernel_rfl:H2 (D0 Ta) 0 Tb Tryz.f383 .plain (mkA [g_0] d)=(Aao d.1).run fun r=>some ([rv g_5 r],[])))
theorem Buh (n:Int) (w:World) (h0:0<=n) (h1:n<=63):
  Calls Tryz.prog 385 #[.int .i64 n] w (Ret w (.int .i64 (V5[n.toNat]?.getD 0))):=by
 have hx: ∃x,V5[n.toNat]? =some x:=⟨_,List.getElem?_eq_getElem (by simp[V5];omega)⟩
 obtain⟨x,hx⟩:=hx
 have hcell:(A0n 327 w Bag).cell? ⟨w.heap.size,n.toNat,none⟩=some (.int .i64 x):=by
  rw[Bod];unfold Bag;rw[List.getElem?_toArray,List.getElem?_map,hx];rfl
 rw[hx]
 go_enter Tryz.func385,Tryz.ntmps385
 go_wp2_with (first|(refine Bih rfl 327 _ rfl Bag (by kernel_rfl) ?_)|(refine Bii rfl 327 rfl _ _ Bah (by kernel_rfl) (by kernel_rfl) (by kernel_rfl) ?_)|(refine Bij rfl 327 _ _ rfl Bag rfl rfl (by kernel_rfl) (by kernel_rfl) (by kernel_rfl) ?_))
 go_ret
 refine Ret.mk rfl ?_
 rw[Bui]
 exact(Dc.refl _).alloc _
theorem Buj (n:Int) (w:World) (h0: ¬(0<=n/\n<=63)):
  Calls Tryz.prog 385 #[.int .i64 n] w (Ret w (.int .i64 0)):=by
 by_cases h:n<0
 .go_enter Tryz.func385,Tryz.ntmps385
  go_wp2_with fail
  go_ret
  exact Ret.mk rfl (Dc.refl _)
 .have h2:63<n:=by omega
  go_enter Tryz.func385,Tryz.ntmps385
  go_wp2_with fail
  go_ret
  exact Ret.mk rfl (Dc.refl _)
def Bik:List (Bool×List Sh):=[(false,[.int .i64])]
def Bil (r:YI):List RV×List RV:=([rv (false,[.int .i64]) r],[])
def Ax9:An:=Ao Bik (fun d=>(Aya d.1).val) Bil
theorem Bdg:Fq 385 Ax9:=by
 refine⟨?_,Tryz.f385,Tryz.func385,by kernel_rfl,by kernel_rfl⟩
 intro rs res vals w G hv hG htb hr
 obtain⟨d,x,rfl,h1,h2⟩:=Bkg hv
 obtain⟨⟨n,_⟩,_⟩:=d
 cases h1
 subst h2
 match vals,hr with
 |[v],hr=>
  have e:v= .int .i64 n:=hr.1.1.1
  subst e
  refine(?_:Calls Tryz.prog 385 #[.int .i64 n] w (Ret w (.int .i64 (Aew n)))).mono fun e w' h=>Buk (Bul n) h
  unfold Aew
  by_cases h:0<=n/\n<=63
  .rw[if_pos h];exact Buh n w h.1 h.2
  .rw[if_neg h];exact Buj n w h

def Bf4:An:=Ao [g_1,g_1] (fun d=>(Bf5 d.1 d.2.1).val) (Fo g_1)
theorem Brp:Fq 386 Bf4:=mkF [] trivial Tryz.func386 0
def A0o:An:=Ao [g_5,g_0] (fun d=>(Aap d.1 d.2.1).val) (Fo g_5)
def Tc:Fns:=[Fz 363 Aai,Fz 383 A0m,Fz 384 Bde,Fz 385 Ax9,Fz 386 Bf4]
theorem Ai9:CfgOk Tryz.prog (D0 Tc):=Gq Oa J9 (show L5 Tryz.prog Tc from⟨Aft,Big,Bkf,Bdg,Brp,trivial⟩)
def Alq:Sk:=⟨[vS 0 sL,vS 5 (sW (.sl 3 [.int .i64]) 17000000),vS 133 (sW (.sl 3 [.int .i64]) 17000001),vI 134,vI 135],[],[17000000,17000001]⟩
def Alr:List (Ex×Sk):=[(.exit 2,⟨[vS 5 (sW (.sl 3 [.int .i64]) 17000000)],[],[17000000]⟩)]
def Aqn:Sk:=⟨[vS 0 sL,vS 5 (sW (.sl 3 [.int .i64]) 8000000),vS 6 (sW (.sl 3 [.int .i64]) 8000001),vI 7,vI 8,vI 9,vI 10,vI 11,vI 12,vI 13,vI 14,vI 15],[],[8000000,8000001]⟩
def Aqo:List (Ex×Sk):=[(.exit 0,⟨[vS 0 sL,vS 5 (sW (.sl 3 [.int .i64]) 8000000),vI 7,vI 8,vI 9,vI 10,vI 11,vI 12,vI 13,vI 14],[],[8000000]⟩)]
def Td:Gt:=fun i st=>cond (Nat.beq i 7) (lam Aqn 8000000 Aqo Iw st) <| cond (Nat.beq i 16) (lam Alq 17000000 Alr H7 st) <| .fail
theorem Bai (cx:Cx) (hp:cx.pin.length<=0):Ec Tryz.prog cx Tryz.f381.ntmps Td (Ba Tryz.f381 0):=Fl Ai9 hp (Do (by kernel_rfl:Bz (Ba Tryz.f381 0)=[]) trivial) (by kernel_rfl) (fun d=>(by kernel_rfl:bod (D0 Tc) 0 Tryz.f381.ntmps Td (Ba Tryz.f381 0) Aqn 8000000 Aqo d=Iw d))
theorem A68 (cx:Cx) (hp:cx.pin.length<=0):Ec Tryz.prog cx Tryz.f381.ntmps Td (Ba Tryz.f381 1):=Fl Ai9 hp (Do (by kernel_rfl:Bz (Ba Tryz.f381 1)=[]) trivial) (by kernel_rfl) (fun d=>(by kernel_rfl:bod (D0 Tc) 0 Tryz.f381.ntmps Td (Ba Tryz.f381 1) Alq 17000000 Alr d=H7 d))
theorem Bim:Fq 381 A0o:=Qh Ai9 Tryz.func381 (by kernel_rfl) (by kernel_rfl) (fun cx b hp hb=>Do (by kernel_rfl:Bz (Tryz.f381.body.getD .skip)=[Ba Tryz.f381 0,Ba Tryz.f381 1]) ⟨Bai cx hp,A68 cx hp,trivial⟩ b hb) (fun d=>(by kernel_rfl:H2 (D0 Tc) 0 Td Tryz.f381 .plain (mkA [g_5,g_0] d)=(Aap d.1 d.2.1).run fun r=>some ([rv g_5 r],[])))
def Aaq:An:=Ao [g_5,g_0] (fun d=>(Aar d.1 d.2.1).val) fun r=>([rv g_5 r.1,rv g_0 r.2],[])
theorem Aja:Fn Tryz.prog 373 .view Aaq:=Cb [Fz 381 A0o] ⟨Bim,trivial⟩ ⟨[(0,.v false [(.sl 3 [.int .i64],.rd)]),vS 1 sB],[],[]⟩ 2000000 [(.exit 0,⟨[(0,.v false [(.sl 3 [.int .i64],.rd)]),vS 1 sB],[],[]⟩)] 1 Gr Tryz.func373 0
def A43:An:=Ao [Bjg,g_0] (fun d=>(An2 d.1 d.2.1).val) (Fo Bjg)
theorem Bkh:Fq 355 A43:=mkF [Fz 372 Auc,Fz 134 Cv,Fz 193 Hc,(373,.view,Aaq)] ⟨A42,Cp,Gx,Aja,trivial⟩ Tryz.func355 0
def Bpr:An:=Ao [g_1] (fun d=>(Bdh d.1).val) (Fo g_0)
theorem Bxh:Fq 374 Bpr:=Cb [Fz 36 B6,Fz 194 Lp] ⟨Bx,Kv,trivial⟩ ⟨[vI 0,vS 3 (sO 5000000)],[],[5000000]⟩ 5000000 [(.exit 0,⟨[vI 0,vS 3 (sO 5000000)],[],[5000000]⟩)] 4 Te Tryz.func374 0
def Ayb:An:=Ao [g_5] (fun d=>(Afw d.1).val) (Fo g_0)
theorem Bdi:Fq 375 Ayb:=Cb [Fz 194 Lp] ⟨Kv,trivial⟩ ⟨[vS 3 (sO 4000000),vS 7 sL,vI 8,vI 9],[],[4000000]⟩ 4000000 [(.exit 0,⟨[vS 3 (sO 4000000)],[],[4000000]⟩)] 3 Jz Tryz.func375 0
def A44:An:=Ao [Bjg] (fun d=>(An3 d.1).val) (Fo g_0)
theorem Bki:Fq 354 A44:=mkF [Fz 372 Auc,Fz 374 Bpr,Fz 193 Hc,(373,.view,Aaq),Fz 375 Ayb] ⟨A42,Bxh,Gx,Aja,Bdi,trivial⟩ Tryz.func354 0
def Bdj:An:=Ao [g_0] (fun d=>(Bdk d.1).val) (Fo g_0)
theorem Bkj:Fq 326 Bdj:=mkF [Fz 356 A40,Fz 355 A43,Fz 354 A44] ⟨Bke,Bkh,Bki,trivial⟩ Tryz.func326 0
def A0p:An:=Ao [g_0] (fun d=>(Ajb d.1).val) (Fo g_0)
theorem Bin:Fq 325 A0p:=Cb [Fz 134 Cv,Fz 326 Bdj] ⟨Cp,Bkj,trivial⟩ ⟨[vS 3 (sO 7000000)],[],[7000000]⟩ 7000000 [(.exit 0,⟨[vS 3 (sO 7000000)],[],[7000000]⟩)] 6 Hm Tryz.func325 0
def Baj:An:=Ao [g_0,B2u] (fun d=>(Aue d.1 d.2.1).val) (Fo g_0)
theorem Boe:Fq 327 Baj:=Cb [] trivial ⟨[(1,.v false [(.int .u8,.nil)]),vS 5 (sO 4000000),vS 9 sB,vI 10,vI 11],[],[4000000]⟩ 4000000 [(.exit 0,⟨[vS 5 (sO 4000000)],[],[4000000]⟩)] 3 Oy Tryz.func327 0
def Aci:An:=Ao [g_0,g_0] (fun d=>(A69 d.1 d.2.1).val) (Fo g_0)
theorem Aex:Fq 285 Aci:=mkF [Fz 325 A0p,Fz 327 Baj,Fz 193 Hc,Fz 326 Bdj] ⟨Bin,Boe,Gx,Bkj,trivial⟩ Tryz.func285 0
def Bak:An:=Ao [g_0,g_1] (fun d=>(Auf d.1 d.2.1).val) (Fo g_0)
theorem Bof:Fq 223 Bak:=mkF [Fz 36 B6,Fz 194 Lp,Fz 285 Aci,Fz 134 Cv] ⟨Bx,Kv,Aex,Cp,trivial⟩ Tryz.func223 0
def A7a:An:=Ao [g_4] (fun d=>(A7b d.1).val) fun r=>([rv g_4 r.1,rv g_0 r.2],[])
theorem Bf6:Fq 139 A7a:=mkF [Fz 134 Cv,Fz 76 Att,Fz 223 Bak] ⟨Cp,A4v,Bof,trivial⟩ Tryz.func139 0
def A45:An:=Ao [g_0,Ee] (fun d=>(An4 d.1 d.2.1).val) (Fo g_0)
theorem Bkk:Fq 225 A45:=mkF [Fz 37 H6,Fz 134 Cv,Fz 194 Lp] ⟨Hy,Cp,Kv,trivial⟩ Tryz.func225 0
def Aas:An:=Ao [Ee,g_1,g_0,g_0,g_1] (fun d=>(Ajc d.1 d.2.1 d.2.2.1 d.2.2.2.1 d.2.2.2.2.1).val) (Fo g_0)
theorem Afx:Fq 142 Aas:=mkF [Fz 37 H6,Fz 36 B6,Fz 190 Gv,Fz 225 A45,Fz 194 Lp,Fz 193 Hc] ⟨Hy,Bx,Gw,Bkk,Kv,Gx,trivial⟩ Tryz.func142 0
def Aqp:An:=Ao [g_0,g_0] (fun d=>(Bdl d.1 d.2.1).val) (Fo g_0)
theorem Aug:Fq 224 Aqp:=mkF [Fz 285 Aci,Fz 134 Cv] ⟨Aex,Cp,trivial⟩ Tryz.func224 0
def A7c:An:=Ao [g_3,Ee,g_1,g_0,g_0,g_1] (fun d=>(A7d d.1 d.2.1 d.2.2.1 d.2.2.2.1 d.2.2.2.2.1 d.2.2.2.2.2.1).val) (Fo g_0)
theorem Bf7:Fq 140 A7c:=mkF [Fz 142 Aas,Fz 75 All,Fz 224 Aqp] ⟨Afx,Ats,Aug,trivial⟩ Tryz.func140 0
def A7e:An:=Ao [g_0,g_0] (fun d=>(A7f d.1 d.2.1).val) (Fo Ams)
theorem Bf8:Fq 141 A7e:=mkF [Fz 134 Cv] ⟨Cp,trivial⟩ Tryz.func141 0
def Ajd:An:=Ao [g_0] (fun d=>(Aje d.1).val) (Fo Ams)
theorem Ayc:Fq 143 Ajd:=mkF [Fz 134 Cv] ⟨Cp,trivial⟩ Tryz.func143 0
def A0q:An:=Ao [Hv,g_1,Ee,E7] (fun d=>(Aat d.1 d.2.1 d.2.2.1 d.2.2.2.1).val) fun r=>([rv Hv r.1,rv Sf r.2.1,rv Vq r.2.2],[])
theorem Bio:Fn Tryz.prog 39 (.lend [2]) A0q:=mkF [Fz 138 Aua,Fz 139 A7a,Fz 140 A7c,Fz 134 Cv,Fz 142 Aas,Fz 141 A7e,Fz 143 Ajd] ⟨A4z,Bf6,Bf7,Cp,Afx,Bf8,Ayc,trivial⟩ Tryz.func39 1
def Bf9:An:=Ao [g_1,g_1] (fun d=>(A0r d.1 d.2.1).val) (Fo Bq)
theorem Brq:Fq 226 Bf9:=mkF [Fz 36 B6] ⟨Bx,trivial⟩ Tryz.func226 0
def A7g:An:=Ao [g_0,g_0] (fun d=>(A7h d.1 d.2.1).val) (Fo g_1)
theorem Bga:Fq 286 A7g:=Cb [] trivial ⟨[vS 0 sB,vS 1 sB,vI 5,vI 13,vI 14],[],[]⟩ 6000000 [(.exit 0,⟨[vI 5],[],[]⟩)] 5 Aau Tryz.func286 0
def Ad4:An:=Ao [g_0,g_0] (fun d=>(An5 d.1 d.2.1).val) (Fo Bq)
theorem Ajf:Fq 227 Ad4:=mkF [Fz 286 A7g] ⟨Bga,trivial⟩ Tryz.func227 0
def Bgb:An:=Ao [g_3,g_1,Ee,E7] (fun d=>(Als d.1 d.2.1 d.2.2.1 d.2.2.2.1).val) (Fo g_1)
theorem Brr:Fq 144 Bgb:=mkF [Fz 75 All,Fz 36 B6,Fz 37 H6,Fz 72 I4,Fz 226 Bf9,Fz 140 A7c,Fz 227 Ad4] ⟨Ats,Bx,Hy,Je,Brq,Bf7,Ajf,trivial⟩ Tryz.func144 0
def An6:An:=Ao [g_0,g_0] (fun d=>(Ad5 d.1 d.2.1).val) (Fo g_0)
theorem A0s:Fq 233 An6:=mkF [Fz 285 Aci] ⟨Aex,trivial⟩ Tryz.func233 0
def Bal:An:=Ao [g_0,g_0,g_1] (fun d=>(Auh d.1 d.2.1 d.2.2.1).val) fun r=>([rv g_0 r.1,rv Bq r.2],[])
theorem Bog:Fq 292 Bal:=Cb [Fz 36 B6,Fz 193 Hc,Fz 285 Aci,Fz 134 Cv] ⟨Bx,Gx,Aex,Cp,trivial⟩ ⟨[vS 0 sB,vS 1 sB,vI 2,vS 8 (sO 7000000),vS 9 (sO 7000001),vI 10],[],[7000000,7000001]⟩ 7000000 [(.exit 0,⟨[vI 2,vS 8 (sO 7000000)],[],[7000000]⟩)] 6 Oz Tryz.func292 0
def Aav:An:=Ao [g_0,B1g] (fun d=>(Aui d.1 d.2.1).val) (Fo g_0)
theorem Ad6:Fq 232 Aav:=mkF [Fz 292 Bal] ⟨Bog,trivial⟩ Tryz.func232 0
def Afy:An:=Ao [g_0] (fun d=>(Afz d.1).val) (Fo g_0)
theorem Aqq:Fq 150 Afy:=mkF [Fz 79 Aev,Fz 233 An6,Fz 232 Aav] ⟨Ag0,A0s,Ad6,trivial⟩ Tryz.func150 0
def Af0:An:=Ao [g_1,g_0,g_0,g_1,g_0] (fun d=>(Af1 d.1 d.2.1 d.2.2.1 d.2.2.2.1 d.2.2.2.2.1).val) (Fo g_0)
theorem Aqr:Fq 151 Af0:=mkF [Fz 36 B6,Fz 190 Gv,Fz 194 Lp,Fz 193 Hc] ⟨Bx,Gw,Kv,Gx,trivial⟩ Tryz.func151 0
def Bgc:An:=Ao [g_0,g_1,g_0,g_0,g_1,g_0] (fun d=>(A0t d.1 d.2.1 d.2.2.1 d.2.2.2.1 d.2.2.2.2.1 d.2.2.2.2.2.1).val) (Fo g_0)
theorem Brs:Fq 228 Bgc:=mkF [Fz 150 Afy,Fz 151 Af0,Fz 224 Aqp] ⟨Aqq,Aqr,Aug,trivial⟩ Tryz.func228 0
def A46:An:=Ao [g_0,E7] (fun d=>(Ad7 d.1 d.2.1).val) (Fo Bq)
theorem Bkl:Fq 145 A46:=mkF [Fz 72 I4,Fz 228 Bgc,Fz 227 Ad4] ⟨Je,Brs,Ajf,trivial⟩ Tryz.func145 0
def A0u:An:=Ao [Ee] (fun d=>(Ajg d.1).val) (Fo H1)
theorem Bip:Fq 229 A0u:=mkF [] trivial Tryz.func229 0
def A47:An:=Ao [g_0,g_0,g_0] (fun d=>(An7 d.1 d.2.1 d.2.2.1).val) (Fo g_0)
theorem Bkm:Fq 290 A47:=mkF [Fz 79 Aev,Fz 190 Gv,Fz 193 Hc,Fz 233 An6] ⟨Ag0,Gw,Gx,A0s,trivial⟩ Tryz.func290 0
def A0v:An:=Ao [g_0] (fun d=>(Ajh d.1).val) (Fo g_0)
theorem Biq:Fq 289 A0v:=mkF [Fz 232 Aav] ⟨Ad6,trivial⟩ Tryz.func289 0
def Bgd:An:=Ao [g_0,g_1] (fun d=>(A0w d.1 d.2.1).val) (Fo g_0)
theorem Brt:Fq 291 Bgd:=Cb [Fz 36 B6,Fz 134 Cv,Fz 232 Aav] ⟨Bx,Cp,Ad6,trivial⟩ ⟨[vI 1,vS 5 (sO 6000000),vI 6],[],[6000000]⟩ 6000000 [(.exit 0,⟨[vS 5 (sO 6000000)],[],[6000000]⟩)] 5 Ry Tryz.func291 0
def A0x:An:=Ao [g_0,g_0,g_0,g_1] (fun d=>(Aji d.1 d.2.1 d.2.2.1 d.2.2.2.1).val) (Fo g_0)
theorem Bir:Fq 231 A0x:=mkF [Fz 290 A47,Fz 289 A0v,Fz 291 Bgd] ⟨Bkm,Biq,Brt,trivial⟩ Tryz.func231 0
def Bam:An:=Ao [] (fun d=>(Auj).val) (Fo g_6)
theorem Boh:Fq 328 Bam:=mkF [] trivial Tryz.func328 0
def Alt:An:=Ao [g_1,g_0] (fun d=>(Alu d.1 d.2.1).val) (Fo g_7)
theorem Auk:Fq 288 Alt:=mkF [Fz 36 B6,Fz 134 Cv,Fz 328 Bam] ⟨Bx,Cp,Boh,trivial⟩ Tryz.func288 0
def A48:An:=Ao [g_1,g_0,g_0] (fun d=>(Ad8 d.1 d.2.1 d.2.2.1).val) (Fo g_8)
theorem Bkn:Fq 230 A48:=mkF [Fz 287 Up,Fz 190 Gv,Fz 134 Cv,Fz 288 Alt] ⟨V0,Gw,Cp,Auk,trivial⟩ Tryz.func230 0
def A49:An:=Ao [g_0,g_1,Ee,E7] (fun d=>(An8 d.1 d.2.1 d.2.2.1 d.2.2.2.1).val) (Fo Ki)
theorem Bko:Fq 147 A49:=mkF [Fz 79 Aev,Fz 36 B6,Fz 37 H6,Fz 72 I4,Fz 134 Cv,Fz 229 A0u,Fz 231 A0x,Fz 230 A48] ⟨Ag0,Bx,Hy,Je,Cp,Bip,Bir,Bkn,trivial⟩ Tryz.func147 0
def A5a:An:=Ao [Kj,Ki] (fun d=>(Ad9 d.1 d.2.1).val) fun r=>([rv Kj r.1,rv g_1 r.2],[])
theorem Bkp:Fq 148 A5a:=mkF [Fz 135 Ady,Fz 77 Aln,Fz 196 Aaj,Fz 146 Aak,Fz 195 A60,Fz 222 Ou] ⟨Aiz,At5,Ad1,Ad2,Bfy,Rc,trivial⟩ Tryz.func148 0
def A7i:An:=Ao [g_0,g_0,g_0] (fun d=>(A7j d.1 d.2.1 d.2.2.1).val) (Fo Ams)
theorem Bge:Fq 149 A7i:=mkF [Fz 134 Cv] ⟨Cp,trivial⟩ Tryz.func149 0
def Af2:An:=Ao [g_1] (fun d=>(Af3 d.1).val) (Fo g_0)
theorem Aqs:Fq 293 Af2:=mkF [Fz 36 B6,Fz 194 Lp] ⟨Bx,Kv,trivial⟩ Tryz.func293 0
def Ag1:An:=Ao [g_1,g_0,g_1,g_1] (fun d=>(Aul d.1 d.2.1 d.2.2.1 d.2.2.2.1).val) (Fo g_0)
theorem An9:Fq 295 Ag1:=mkF [Fz 287 Up,Fz 190 Gv,Fz 36 B6,Fz 194 Lp,Fz 193 Hc] ⟨V0,Gw,Bx,Kv,Gx,trivial⟩ Tryz.func295 0
def A5b:An:=Ao [g_0,g_0,g_1] (fun d=>(Aoa d.1 d.2.1 d.2.2.1).val) (Fo g_0)
theorem Bkq:Fq 382 A5b:=mkF [Fz 36 B6,Fz 193 Hc,Fz 194 Lp,Fz 285 Aci] ⟨Bx,Gx,Kv,Aex,trivial⟩ Tryz.func382 0
def Ban:An:=Ao [g_0,g_0,g_1] (fun d=>(Aum d.1 d.2.1 d.2.2.1).val) (Fo g_0)
theorem Boi:Fq 377 Ban:=Cb [Fz 36 B6,Fz 382 A5b,Fz 134 Cv] ⟨Bx,Bkq,Cp,trivial⟩ ⟨[vS 0 sB,vS 1 sB,vI 2,vS 7 (sO 6000000),vI 8],[],[6000000]⟩ 6000000 [(.exit 0,⟨[vI 2,vS 7 (sO 6000000)],[],[6000000]⟩)] 5 O0 Tryz.func377 0
def Bdm:An:=Ao [g_0,g_0,g_0] (fun d=>(Bdn d.1 d.2.1 d.2.2.1).val) (Fo g_0)
theorem Bkr:Fq 358 Bdm:=Cb [Fz 377 Ban] ⟨Boi,trivial⟩ ⟨[vS 2 sB,vS 7 (sO 6000000),vS 28 (sO 6000001),vI 29,vI 30],[],[6000000,6000001]⟩ 6000000 [(.exit 0,⟨[vS 7 (sO 6000000)],[],[6000000]⟩)] 5 Za Tryz.func358 0
def O5:An:=Ao [g_1,E7] (fun d=>(Ajj d.1 d.2.1).val) (Fo g_0)
theorem Re:Fq 238 O5:=mkF [Fz 287 Up,Fz 41 Ql,Fz 72 I4,Fz 295 Ag1,Fz 193 Hc] ⟨V0,Rx,Je,An9,Gx,trivial⟩ Tryz.func238 0
def Bks:An:=Ao [g_0,g_1,g_0,g_1,g_1,g_1,g_0] (fun d=>(A7k d.1 d.2.1 d.2.2.1 d.2.2.2.1 d.2.2.2.2.1 d.2.2.2.2.2.1 d.2.2.2.2.2.2.1).val) fun r=>([rv E7 r.1,rv Bq r.2],[])
theorem Bum:Fq 332 Bks:=mkF [Fz 134 Cv,Fz 287 Up,Fz 41 Ql,Fz 72 I4,Fz 295 Ag1,Fz 358 Bdm,Fz 238 O5,Fz 224 Aqp] ⟨Cp,V0,Rx,Je,An9,Bkr,Re,Aug,trivial⟩ Tryz.func332 0
def Bao:An:=Ao [g_7,g_1,g_0,g_1,g_0] (fun d=>(Aun d.1 d.2.1 d.2.2.1 d.2.2.2.1 d.2.2.2.2.1).val) fun r=>([rv g_7 r.1,rv E7 r.2.1,rv g_1 r.2.2],[])
theorem Boj:Fq 299 Bao:=mkF [Fz 324 Agz,Fz 311 Ai2,Fz 332 Bks] ⟨Anx,Alm,Bum,trivial⟩ Tryz.func299 0
def Ajk:An:=Ao [g_8,g_1,g_0] (fun d=>(Ajl d.1 d.2.1 d.2.2.1).val) fun r=>([rv g_8 r.1,rv E7 r.2.1,rv g_1 r.2.2],[])
theorem Ayd:Fq 242 Ajk:=mkF [Fz 283 Lo,Fz 265 Mr,Fz 299 Bao] ⟨Mf,N0,Boj,trivial⟩ Tryz.func242 0
def Bdo:An:=Ao [g_8] (fun d=>(Bdp d.1).val) fun r=>([rv g_8 r.1,rv E7 r.2.1,rv g_1 r.2.2],[])
theorem Bkt:Fq 234 Bdo:=mkF [Fz 265 Mr,Fz 283 Lo,Fz 293 Af2,Fz 242 Ajk] ⟨N0,Mf,Aqs,Ayd,trivial⟩ Tryz.func234 0
def Ag2:An:=Ao [g_8,E7] (fun d=>(Auo d.1 d.2.1).val) (Fo Ams)
theorem Aob:Fq 235 Ag2:=mkF [Fz 238 O5,Fz 141 A7e] ⟨Re,Bf8,trivial⟩ Tryz.func235 0
def A5c:An:=Ao [Ki] (fun d=>(Aea d.1).val) fun r=>([rv Ki r.1,rv Sf r.2.1,rv Vq r.2.2],[])
theorem Bku:Fq 152 A5c:=mkF [Fz 222 Ou,Fz 196 Aaj,Fz 234 Bdo,Fz 235 Ag2] ⟨Rc,Ad1,Bkt,Aob,trivial⟩ Tryz.func152 0
def Aoc:An:=Ao [Kj,g_1,Ki] (fun d=>(Aod d.1 d.2.1 d.2.2.1).val) fun r=>([rv Kj r.1,rv Bq r.2],[])
theorem A0y:Fq 153 Aoc:=mkF [Fz 135 Ady,Fz 77 Aln,Fz 222 Ou] ⟨Aiz,At5,Rc,trivial⟩ Tryz.func153 0
def Aqt:An:=Ao [Hv,g_1,Ee,E7] (fun d=>(Us d.1 d.2.1 d.2.2.1 d.2.2.2.1).val) fun r=>([rv Hv r.1,rv Sf r.2.1,rv Vq r.2.2],[])
theorem Bap:Fn Tryz.prog 40 (.lend [2]) Aqt:=mkF [Fz 144 Bgb,Fz 145 A46,Fz 146 Aak,Fz 147 A49,Fz 148 A5a,Fz 142 Aas,Fz 149 A7i,Fz 150 Afy,Fz 151 Af0,Fz 134 Cv,Fz 73 Hb,Fz 152 A5c,Fz 153 Aoc] ⟨Brr,Bkl,Ad2,Bko,Bkp,Afx,Bge,Aqq,Aqr,Cp,Hl,Bku,A0y,trivial⟩ Tryz.func40 1
def Baq:An:=Ao [g_6,g_1] (fun d=>(Aup d.1 d.2.1).val) (Fo Bq)
theorem Bok:Fq 357 Baq:=mkF [Fz 342 A0c,Fz 36 B6,Fz 364 Atz] ⟨A98,Bx,A4y,trivial⟩ Tryz.func357 0
def Bar:An:=Ao [g_6,g_1] (fun d=>(Auq d.1 d.2.1).val) fun r=>([rv g_6 r.1,rv Bq r.2],[])
theorem Bol:Fq 329 Bar:=Cb [Fz 353 Anv,Fz 357 Baq] ⟨A0a,Bok,trivial⟩ ⟨[vI 1,vX 2,vX 4,vX 6,vI 7],[(2,[sI,sL]),(4,[sI,sW (.sl 3 [.int .i64]) 6000000]),(6,[sI,sW (.sl 3 [.int .i64]) 6000001])],[6000000,6000001]⟩ 6000000 [(.exit 0,⟨[vI 1,vX 2,vX 4,vX 6],[(2,[sI,sL]),(4,[sI,sW (.sl 3 [.int .i64]) 6000000]),(6,[sI,sW (.sl 3 [.int .i64]) 6000001])],[6000000,6000001]⟩)] 5 O6 Tryz.func329 0
def Bas:An:=Ao [g_0,g_1,E7] (fun d=>(Aur d.1 d.2.1 d.2.2.1).val) fun r=>([rv g_0 r.1,rv Bq r.2],[])
theorem Bom:Fq 330 Bas:=mkF [Fz 238 O5,Fz 224 Aqp,Fz 227 Ad4,Fz 295 Ag1,Fz 358 Bdm] ⟨Re,Aug,Ajf,An9,Bkr,trivial⟩ Tryz.func330 0
def Bat:An:=Ao [g_7,g_1,E7] (fun d=>(Aus d.1 d.2.1 d.2.2.1).val) fun r=>([rv g_7 r.1,rv g_0 r.2.1,rv g_1 r.2.2],[])
theorem Bon:Fq 294 Bat:=mkF [Fz 324 Agz,Fz 311 Ai2,Fz 238 O5,Fz 329 Bar,Fz 330 Bas] ⟨Anx,Alm,Re,Bol,Bom,trivial⟩ Tryz.func294 0
def A0z:An:=Ao [g_8,g_1,E7] (fun d=>(Ajm d.1 d.2.1 d.2.2.1).val) fun r=>([rv g_8 r.1,rv g_0 r.2.1,rv g_1 r.2.2],[])
theorem Bis:Fq 236 A0z:=mkF [Fz 283 Lo,Fz 265 Mr,Fz 36 B6,Fz 41 Ql,Fz 72 I4,Fz 286 A7g,Fz 288 Alt,Fz 294 Bat] ⟨Mf,N0,Bx,Rx,Je,Bga,Auk,Bon,trivial⟩ Tryz.func236 0
def Bau:An:=Ao [g_8,g_1] (fun d=>(Aut d.1 d.2.1).val) fun r=>([rv g_0 r.1,rv Bq r.2],[])
theorem Boo:Fq 237 Bau:=mkF [Fz 265 Mr,Fz 134 Cv] ⟨N0,Cp,trivial⟩ Tryz.func237 0
def Auu:An:=Ao [H1,Ee] (fun d=>(Auv d.1 d.2.1).val) (Fo g_1)
theorem A5d:Fq 296 Auu:=Cb [] trivial ⟨[vX 3,vS 8 (sR (.sl 228 h_4)),vI 9,vI 10],[(3,[sI,sI])],[]⟩ 3000000 [(.ret,⟨[vI 4],[],[]⟩),(.exit 0,⟨[],[],[]⟩)] 2 Tf Tryz.func296 0
def Bav:An:=Ao [H1,g_1,Ee,g_0] (fun d=>(Ag3 d.1 d.2.1 d.2.2.1 d.2.2.2.1).val) fun r=>([rv H1 r.1,rv Bq r.2],[])
theorem Bop:Fq 239 Bav:=mkF [Fz 284 Rb,Fz 296 Auu,Fz 266 Adz,Fz 36 B6,Fz 73 Hb] ⟨Uo,A5d,Ai3,Bx,Hl,trivial⟩ Tryz.func239 0
def Bkv:An:=Ao [g_8] (fun d=>(A7l d.1).val) fun r=>([rv g_8 r.1,rv Bq r.2],[])
theorem Bun:Fq 331 Bkv:=mkF [Fz 283 Lo,Fz 265 Mr,Fz 232 Aav,Fz 288 Alt] ⟨Mf,N0,Ad6,Auk,trivial⟩ Tryz.func331 0
def Aye:An:=Ao [g_8,g_1,g_0] (fun d=>(Af4 d.1 d.2.1 d.2.2.1).val) fun r=>([rv g_8 r.1,rv g_1 r.2],[])
theorem Bdq:Fq 297 Aye:=mkF [Fz 283 Lo,Fz 265 Mr,Fz 36 B6,Fz 293 Af2,Fz 73 Hb,Fz 331 Bkv] ⟨Mf,N0,Bx,Aqs,Hl,Bun,trivial⟩ Tryz.func297 0
def Ayf:An:=Ao [Ki,g_1,g_0] (fun d=>(Wz d.1 d.2.1 d.2.2.1).val) fun r=>([rv Ki r.1,rv Sf r.2.1,rv Vq r.2.2],[])
theorem Bdr:Fn Tryz.prog 240 (.lend [2]) Ayf:=mkF [Fz 297 Aye,Fz 134 Cv,Fz 234 Bdo,Fz 235 Ag2] ⟨Bdq,Cp,Bkt,Aob,trivial⟩ Tryz.func240 1
def Aey:An:=Ao [H1,g_1] (fun d=>(Mt d.1 d.2.1).val) (Fo H1)
def Mu:Fns:=[Fz 284 Rb]
theorem Aez:CfgOk Tryz.prog (D0 Mu):=Gq Oa J9 (show L5 Tryz.prog Mu from⟨Uo,trivial⟩)
def Aaw:Sk:=⟨[vI 1,vX 4,vX 5,vS 13 (sW (.sl 228 h_4) 4000000),vI 14,vI 15],[(4,[sI,sI,sW (.sl 228 h_4) 4000001]),(5,[sI,sI,sW (.sl 228 h_4) 4000002])],[4000000,4000001,4000002]⟩
def Aax:List (Ex×Sk):=[(.exit 0,⟨[vX 4,vX 5],[(4,[sI,sI,sW (.sl 228 h_4) 4000000]),(5,[sI,sI,sW (.sl 228 h_4) 4000001])],[4000000,4000001]⟩)]
def Tg:Gt:=fun i st=>cond (Nat.beq i 3) (lam Aaw 4000000 Aax Fm st) <| .fail
theorem Aqu (cx:Cx) (hp:cx.pin.length<=0):Ec Tryz.prog cx Tryz.f298.ntmps Tg (Ba Tryz.f298 0):=Bkw Aez hp (Do (by kernel_rfl:Bz (Ba Tryz.f298 0)=[]) trivial) 13 15 4500000 (by kernel_rfl) (by kernel_rfl) (fun d=>(by kernel_rfl:Bru (D0 Mu) 0 Tryz.f298.ntmps Tg (Ba Tryz.f298 0) Aaw 4000000 Aax 13 15 4500000 d=Fm d))
theorem Ayv:Fq 298 Aey:=Qh Aez Tryz.func298 (by kernel_rfl) (by kernel_rfl) (fun cx b hp hb=>Do (by kernel_rfl:Bz (Tryz.f298.body.getD .skip)=[Ba Tryz.f298 0]) ⟨Aqu cx hp,trivial⟩ b hb) (fun d=>(by kernel_rfl:H2 (D0 Mu) 0 Tg Tryz.f298 .plain (mkA [H1,g_1] d)=(Mt d.1 d.2.1).run fun r=>some ([rv H1 r],[])))
def Bgf:An:=Ao [H1,g_1,Ee,g_0] (fun d=>(Ae0 d.1 d.2.1 d.2.2.1 d.2.2.2.1).val) fun r=>([rv H1 r.1,rv Bq r.2],[])
theorem Brv:Fq 241 Bgf:=mkF [Fz 266 Adz,Fz 36 B6,Fz 37 H6,Fz 190 Gv,Fz 284 Rb,Fz 298 Aey,Fz 296 Auu,Fz 134 Cv] ⟨Ai3,Bx,Hy,Gw,Uo,Ayv,A5d,Cp,trivial⟩ Tryz.func241 0
def A00:An:=Ao [Ki,g_1,Ee,E7,g_0] (fun d=>(Aay d.1 d.2.1 d.2.2.1 d.2.2.2.1 d.2.2.2.2.1).val) fun r=>([rv Ki r.1,rv Sf r.2.1,rv Vq r.2.2.1,rv Bq r.2.2.2],[])
theorem Bit:Fq 154 A00:=mkF [Fz 222 Ou,Fz 196 Aaj,Fz 37 H6,Fz 236 A0z,Fz 237 Bau,Fz 238 O5,Fz 149 A7i,Fz 134 Cv,Fz 239 Bav,(240,(.lend [2]),Ayf),Fz 241 Bgf,Fz 242 Ajk,Fz 235 Ag2] ⟨Rc,Ad1,Hy,Bis,Boo,Re,Bge,Cp,Bop,Bdr,Brv,Ayd,Aob,trivial⟩ Tryz.func154 0
def Agt:An:=Ao [Hv,g_1,Ee,E7] (fun d=>(Ob d.1 d.2.1 d.2.2.1 d.2.2.2.1).val) fun r=>([rv Hv r.1,rv Sf r.2.1,rv Vq r.2.2],[])
theorem A01:Fn Tryz.prog 42 (.lend [2]) Agt:=mkF [Fz 146 Aak,Fz 139 A7a,Fz 138 Aua,Fz 154 A00,Fz 153 Aoc,Fz 134 Cv,Fz 143 Ajd] ⟨Ad2,Bf6,A4z,Bit,A0y,Cp,Ayc,trivial⟩ Tryz.func42 1
def Baw:An:=Ao [E7] (fun d=>(Auw d.1).val) (Fo g_1)
theorem Boq:Fq 45 Baw:=mkF [Fz 74 Ai6] ⟨Ax8,trivial⟩ Tryz.func45 0
def Bgg:An:=Ao [Ll,Ee,g_1] (fun d=>(A02 d.1 d.2.1 d.2.2.1).val) fun r=>([rv Ll r.1,rv Bq r.2],[])
theorem Brw:Fq 44 Bgg:=mkF [Fz 136 Si,Fz 137 S7,Fz 78 Rd,Fz 155 An1,Fz 36 B6] ⟨Xf,Wy,Uq,A0l,Bx,trivial⟩ Tryz.func44 0
def Aqv:An:=Ao [Hv,g_1,Ee,g_0] (fun d=>(Ut d.1 d.2.1 d.2.2.1 d.2.2.2.1).val) fun r=>([rv Hv r.1,rv Sf r.2.1,rv Vq r.2.2],[])
def Uu:Fns:=[Fz 35 Aqe,Fz 10 A0h,Fz 36 B6,Fz 37 H6,Fz 38 Bkc,Fz 9 A0k,(39,(.lend [2]),A0q),(40,(.lend [2]),Aqt),Fz 41 Ql,(42,(.lend [2]),Agt),Fz 43 A66,Fz 45 Baw,Fz 44 Bgg]
theorem Aqw:CfgOk Tryz.prog (D0 Uu):=Gq Oa J9 (show L5 Tryz.prog Uu from⟨A96,Bie,Bx,Hy,Bug,Bif,Bio,Bap,Rx,A01,Bf1,Boq,Brw,trivial⟩)
def Agu:Sk:=⟨[vX 8,vX 11,vS 15 (sW (.sl 95 h_8) 18000000),vS 16 (sW (.sl 85 Xd) 18000001),vS 94 (sW (.sl 85 Xd) 18000002),vI 95,vI 96],[(8,[sW (.sl 22 [.sl 5 [.int .u8]]) 18000003,sO 18000004,sO 18000005,sI,sI,sW (.sl 113 D6) 18000006,sW (.sl 175 h_2) 18000007]),(11,[sW (.sl 22 [.sl 5 [.int .u8]]) 18000008,sO 18000009,sO 18000010,sI,sI,sW (.sl 113 D6) 18000011,sW (.sl 175 h_2) 18000012])],[18000000,18000001,18000002,18000003,18000004,18000005,18000006,18000007,18000008,18000009,18000010,18000011,18000012]⟩
def Agv:List (Ex×Sk):=[(.exit 1,⟨[vX 8,vX 11,vS 15 (sW (.sl 95 h_8) 18000000),vS 16 (sW (.sl 85 Xd) 18000001)],[(8,[sW (.sl 22 [.sl 5 [.int .u8]]) 18000002,sO 18000003,sO 18000004,sI,sI,sW (.sl 113 D6) 18000005,sW (.sl 175 h_2) 18000006]),(11,[sW (.sl 22 [.sl 5 [.int .u8]]) 18000007,sO 18000008,sO 18000009,sI,sI,sW (.sl 113 D6) 18000010,sW (.sl 175 h_2) 18000011])],[18000000,18000001,18000002,18000003,18000004,18000005,18000006,18000007,18000008,18000009,18000010,18000011]⟩)]
def Acj:Gt:=fun i st=>cond (Nat.beq i 17) (lam Agu 18000000 Agv Dm st) <| .fail
theorem A03 (cx:Cx) (hp:cx.pin.length<=0):Ec Tryz.prog cx Tryz.f7.ntmps Acj (Ba Tryz.f7 0):=Bkw Aqw hp (Do (by kernel_rfl:Bz (Ba Tryz.f7 0)=[]) trivial) 94 96 18500000 (by kernel_rfl) (by kernel_rfl) (fun d=>(by kernel_rfl:Bru (D0 Uu) 0 Tryz.f7.ntmps Acj (Ba Tryz.f7 0) Agu 18000000 Agv 94 96 18500000 d=Dm d))
theorem Bax:Fq 7 Aqv:=Qh Aqw Tryz.func7 (by kernel_rfl) (by kernel_rfl) (fun cx b hp hb=>Do (by kernel_rfl:Bz (Tryz.f7.body.getD .skip)=[Ba Tryz.f7 0]) ⟨A03 cx hp,trivial⟩ b hb) (fun d=>(by kernel_rfl:H2 (D0 Uu) 0 Acj Tryz.f7 .plain (mkA [Hv,g_1,Ee,g_0] d)=(Ut d.1 d.2.1 d.2.2.1 d.2.2.2.1).run fun r=>some ([rv Hv r.1,rv Sf r.2.1,rv Vq r.2.2],[])))
def Gy:An:=Ao [g_0,g_0] (fun d=>(Aoe d.1 d.2.1).val) (Fo Bq)
theorem Gz:Fq 21 Gy:=Cb [] trivial ⟨[vS 0 sB,vS 1 sB,vI 5],[],[]⟩ 5000000 [(.ret,⟨[(4,.v false [(.bool,.nil)])],[],[]⟩),(.exit 0,⟨[],[],[]⟩)] 4 Rf Tryz.func21 0
def A04:An:=Ao [g_2,g_2] (fun d=>(Ajn d.1 d.2.1).val) (Fo Bq)
theorem Biu:Fq 99 A04:=Cb [Fz 21 Gy] ⟨Gz,trivial⟩ ⟨[vS 0 (sR (.sl 22 [.sl 5 [.int .u8]])),vS 1 (sR (.sl 22 [.sl 5 [.int .u8]])),vI 5],[],[]⟩ 5000000 [(.ret,⟨[(4,.v false [(.bool,.nil)])],[],[]⟩),(.exit 0,⟨[],[],[]⟩)] 4 O7 Tryz.func99 0
def Bgh:An:=Ao [g_3,g_3] (fun d=>(A05 d.1 d.2.1).val) (Fo Bq)
theorem Brx:Fq 100 Bgh:=mkF [Fz 21 Gy] ⟨Gz,trivial⟩ Tryz.func100 0
def Bay:An:=Ao [g_4,g_4] (fun d=>(Aux d.1 d.2.1).val) (Fo Bq)
theorem Bor:Fq 101 Bay:=mkF [Fz 21 Gy] ⟨Gz,trivial⟩ Tryz.func101 0
def Baz:An:=Ao [g_5,g_5] (fun d=>(Auy d.1 d.2.1).val) (Fo Bq)
theorem Bos:Fq 380 Baz:=Cb [] trivial ⟨[vS 0 sL,vS 1 sL,vI 5],[],[]⟩ 5000000 [(.ret,⟨[(4,.v false [(.bool,.nil)])],[],[]⟩),(.exit 0,⟨[],[],[]⟩)] 4 Th Tryz.func380 0
def Bgi:An:=Ao [g_6,g_6] (fun d=>(A06 d.1 d.2.1).val) (Fo Bq)
theorem Bry:Fq 370 Bgi:=mkF [Fz 380 Baz] ⟨Bos,trivial⟩ Tryz.func370 0
def Bkx:An:=Ao [g_7,g_7] (fun d=>(A7m d.1 d.2.1).val) (Fo Bq)
theorem Buo:Fq 348 Bkx:=mkF [Fz 21 Gy,Fz 370 Bgi] ⟨Gz,Bry,trivial⟩ Tryz.func348 0
def Ba0:An:=Ao [g_8,g_8] (fun d=>(Auz d.1 d.2.1).val) (Fo Bq)
theorem Bou:Fq 318 Ba0:=mkF [Fz 21 Gy,Fz 348 Bkx] ⟨Gz,Buo,trivial⟩ Tryz.func318 0
def Uv:An:=Ao [Ee,Ee] (fun d=>(Au0 d.1 d.2.1).val) (Fo Bq)
theorem V6:Fq 204 Uv:=mkF [] trivial Tryz.func204 0
def Ba1:An:=Ao [g_9,g_9] (fun d=>(Au1 d.1 d.2.1).val) (Fo Bq)
theorem Bov:Fq 371 Ba1:=mkF [Fz 204 Uv,Fz 21 Gy] ⟨V6,Gz,trivial⟩ Tryz.func371 0
def A5e:An:=Ao [Bcs,Bcs] (fun d=>(Aof d.1 d.2.1).val) (Fo Bq)
theorem Bky:Fq 349 A5e:=Cb [Fz 371 Ba1] ⟨Bov,trivial⟩ ⟨[vS 0 (sR (.sl 228 h_4)),vS 1 (sR (.sl 228 h_4)),vI 5],[],[]⟩ 5000000 [(.ret,⟨[(4,.v false [(.bool,.nil)])],[],[]⟩),(.exit 0,⟨[],[],[]⟩)] 4 Rg Tryz.func349 0
def A5f:An:=Ao [H1,H1] (fun d=>(Aog d.1 d.2.1).val) (Fo Bq)
theorem Bkz:Fq 319 A5f:=mkF [Fz 204 Uv,Fz 349 A5e] ⟨V6,Bky,trivial⟩ Tryz.func319 0
def Ba2:An:=Ao [Ki,Ki] (fun d=>(Au2 d.1 d.2.1).val) (Fo Bq)
theorem Bow:Fq 271 Ba2:=mkF [Fz 21 Gy,Fz 318 Ba0,Fz 319 A5f] ⟨Gz,Bou,Bkz,trivial⟩ Tryz.func271 0
def A5g:An:=Ao [Bct,Bct] (fun d=>(Aoh d.1 d.2.1).val) (Fo Bq)
theorem Bk0:Fq 202 A5g:=Cb [Fz 271 Ba2] ⟨Bow,trivial⟩ ⟨[vS 0 (sR (.sl 113 D6)),vS 1 (sR (.sl 113 D6)),vI 5],[],[]⟩ 5000000 [(.ret,⟨[(4,.v false [(.bool,.nil)])],[],[]⟩),(.exit 0,⟨[],[],[]⟩)] 4 Rh Tryz.func202 0
def Bgj:An:=Ao [Kj,Kj] (fun d=>(A07 d.1 d.2.1).val) (Fo Bq)
theorem Brz:Fq 102 Bgj:=mkF [Fz 202 A5g] ⟨Bk0,trivial⟩ Tryz.func102 0
def A08:An:=Ao [Bq6,Bq6] (fun d=>(Ajo d.1 d.2.1).val) (Fo Bq)
theorem Biv:Fq 203 A08:=mkF [Fz 204 Uv] ⟨V6,trivial⟩ Tryz.func203 0
def Ayg:An:=Ao [Ll,Ll] (fun d=>(Af5 d.1 d.2.1).val) (Fo Bq)
theorem Bds:Fq 103 Ayg:=Cb [Fz 203 A08] ⟨Biv,trivial⟩ ⟨[vS 0 (sR (.sl 175 h_2)),vS 1 (sR (.sl 175 h_2)),vI 5],[],[]⟩ 5000000 [(.ret,⟨[(4,.v false [(.bool,.nil)])],[],[]⟩),(.exit 0,⟨[],[],[]⟩)] 4 Mv Tryz.func103 0
def A09:An:=Ao [Hv,Hv] (fun d=>(Ajp d.1 d.2.1).val) (Fo Bq)
theorem Biw:Fq 18 A09:=mkF [Fz 99 A04,Fz 100 Bgh,Fz 101 Bay,Fz 102 Bgj,Fz 103 Ayg] ⟨Biu,Brx,Bor,Brz,Bds,trivial⟩ Tryz.func18 0
def A5h:An:=Ao [E7,E7] (fun d=>(Aoi d.1 d.2.1).val) (Fo Bq)
theorem Bk1:Fq 205 A5h:=mkF [Fz 21 Gy] ⟨Gz,trivial⟩ Tryz.func205 0
def Bgk:An:=Ao [B1h,B1h] (fun d=>(A1a d.1 d.2.1).val) (Fo Bq)
theorem Br0:Fq 104 Bgk:=mkF [Fz 204 Uv,Fz 205 A5h] ⟨V6,Bk1,trivial⟩ Tryz.func104 0
def Ba3:An:=Ao [Sf,Sf] (fun d=>(Au3 d.1 d.2.1).val) (Fo Bq)
theorem Box:Fq 19 Ba3:=Cb [Fz 104 Bgk] ⟨Br0,trivial⟩ ⟨[vS 0 (sR (.sl 85 Xd)),vS 1 (sR (.sl 85 Xd)),vI 5],[],[]⟩ 5000000 [(.ret,⟨[(4,.v false [(.bool,.nil)])],[],[]⟩),(.exit 0,⟨[],[],[]⟩)] 4 Ti Tryz.func19 0
def Ba4:An:=Ao [Ams,Ams] (fun d=>(Au4 d.1 d.2.1).val) (Fo Bq)
theorem Boy:Fq 105 Ba4:=mkF [Fz 21 Gy,Fz 204 Uv] ⟨Gz,V6,trivial⟩ Tryz.func105 0
def A5i:An:=Ao [Vq,Vq] (fun d=>(Aoj d.1 d.2.1).val) (Fo Bq)
theorem Bk2:Fq 20 A5i:=Cb [Fz 105 Ba4] ⟨Boy,trivial⟩ ⟨[vS 0 (sR (.sl 95 h_8)),vS 1 (sR (.sl 95 h_8)),vI 5],[],[]⟩ 5000000 [(.ret,⟨[(4,.v false [(.bool,.nil)])],[],[]⟩),(.exit 0,⟨[],[],[]⟩)] 4 Ri Tryz.func20 0
def Hd:An:=Ao [g_0,g_1] (fun d=>(Af6 d.1 d.2.1).val) fun r=>([rv g_1 r.1],[rv g_0 r.2])
theorem Hn:Fn Tryz.prog 23 (.lend [1]) Hd:=Cb [] trivial ⟨[vS 0 (sO 3000000),vI 1,vI 5],[],[3000000]⟩ 3000000 [(.exit 0,⟨[vS 0 (sO 3000000),vI 1],[],[3000000]⟩)] 2 Mw Tryz.func23 1
def Aqx:An:=Ao [g_2,g_1] (fun d=>(Ack d.1 d.2.1).val) fun r=>([rv g_1 r.1],[rv g_2 r.2])
theorem Ba5:Fn Tryz.prog 106 (.lend [1]) Aqx:=Cb [(23,(.lend [1]),Hd)] ⟨Hn,trivial⟩ ⟨[vS 0 (sW (.sl 22 [.sl 5 [.int .u8]]) 3000000),vI 1,vI 5],[],[3000000]⟩ 3000000 [(.exit 0,⟨[vS 0 (sW (.sl 22 [.sl 5 [.int .u8]]) 3000000),vI 1],[],[3000000]⟩)] 2 Lq Tryz.func106 1
def A5j:An:=Ao [g_3,g_1] (fun d=>(Aok d.1 d.2.1).val) fun r=>([rv g_1 r.1],[rv g_3 r.2])
theorem Bk3:Fn Tryz.prog 107 (.lend [1]) A5j:=mkF [(23,(.lend [1]),Hd)] ⟨Hn,trivial⟩ Tryz.func107 1
def A1b:An:=Ao [g_4,g_1] (fun d=>(Ajq d.1 d.2.1).val) fun r=>([rv g_1 r.1],[rv g_4 r.2])
theorem Bix:Fn Tryz.prog 108 (.lend [1]) A1b:=mkF [(23,(.lend [1]),Hd)] ⟨Hn,trivial⟩ Tryz.func108 1
def A1c:An:=Ao [g_5,g_1] (fun d=>(Ajr d.1 d.2.1).val) fun r=>([rv g_1 r.1],[rv g_5 r.2])
theorem Biy:Fn Tryz.prog 272 (.lend [1]) A1c:=Cb [] trivial ⟨[vS 0 (sW (.sl 3 [.int .i64]) 3000000),vI 1,vI 5],[],[3000000]⟩ 3000000 [(.exit 0,⟨[vS 0 (sW (.sl 3 [.int .i64]) 3000000),vI 1],[],[3000000]⟩)] 2 O8 Tryz.func272 1
def Ayh:An:=Ao [Bcs,g_1] (fun d=>(Af7 d.1 d.2.1).val) fun r=>([rv g_1 r.1],[rv Bcs r.2])
theorem Bdt:Fn Tryz.prog 273 (.lend [1]) Ayh:=Cb [(23,(.lend [1]),Hd)] ⟨Hn,trivial⟩ ⟨[vS 0 (sW (.sl 228 h_4) 3000000),vI 1,vI 5],[],[3000000]⟩ 3000000 [(.exit 0,⟨[vS 0 (sW (.sl 228 h_4) 3000000),vI 1],[],[3000000]⟩)] 2 Mx Tryz.func273 1
def Ayi:An:=Ao [Bct,g_1] (fun d=>(Af8 d.1 d.2.1).val) fun r=>([rv g_1 r.1],[rv Bct r.2])
theorem Bdu:Fn Tryz.prog 206 (.lend [1]) Ayi:=Cb [(23,(.lend [1]),Hd),(272,(.lend [1]),A1c),(273,(.lend [1]),Ayh)] ⟨Hn,Biy,Bdt,trivial⟩ ⟨[vS 0 (sW (.sl 113 D6) 3000000),vI 1,vI 5],[],[3000000]⟩ 3000000 [(.exit 0,⟨[vS 0 (sW (.sl 113 D6) 3000000),vI 1],[],[3000000]⟩)] 2 My Tryz.func206 1
def A5k:An:=Ao [Kj,g_1] (fun d=>(Aol d.1 d.2.1).val) fun r=>([rv g_1 r.1],[rv Kj r.2])
theorem Bk4:Fn Tryz.prog 109 (.lend [1]) A5k:=mkF [(206,(.lend [1]),Ayi)] ⟨Bdu,trivial⟩ Tryz.func109 1
def Alv:An:=Ao [Ll,g_1] (fun d=>(Aaz d.1 d.2.1).val) fun r=>([rv g_1 r.1],[rv Ll r.2])
theorem A7n:Fn Tryz.prog 110 (.lend [1]) Alv:=Cb [] trivial ⟨[vS 0 (sW (.sl 175 h_2) 3000000),vI 1,vI 5],[],[3000000]⟩ 3000000 [(.exit 0,⟨[vS 0 (sW (.sl 175 h_2) 3000000),vI 1],[],[3000000]⟩)] 2 Ka Tryz.func110 1
def Aqy:An:=Ao [Hv,g_1] (fun d=>(Acl d.1 d.2.1).val) fun r=>([rv g_1 r.1],[rv Hv r.2])
theorem Ba6:Fn Tryz.prog 22 (.lend [1]) Aqy:=mkF [(106,(.lend [1]),Aqx),(107,(.lend [1]),A5j),(108,(.lend [1]),A1b),(109,(.lend [1]),A5k),(110,(.lend [1]),Alv)] ⟨Ba5,Bk3,Bix,Bk4,A7n,trivial⟩ Tryz.func22 1
def A1d:An:=Ao [Sf,g_1] (fun d=>(Ajs d.1 d.2.1).val) fun r=>([rv g_1 r.1],[rv Sf r.2])
theorem Biz:Fn Tryz.prog 24 (.lend [1]) A1d:=Cb [(23,(.lend [1]),Hd)] ⟨Hn,trivial⟩ ⟨[vS 0 (sW (.sl 85 Xd) 3000000),vI 1,vI 5],[],[3000000]⟩ 3000000 [(.exit 0,⟨[vS 0 (sW (.sl 85 Xd) 3000000),vI 1],[],[3000000]⟩)] 2 O9 Tryz.func24 1
def Ayj:An:=Ao [Vq,g_1] (fun d=>(Af9 d.1 d.2.1).val) fun r=>([rv g_1 r.1],[rv Vq r.2])
theorem Bdv:Fn Tryz.prog 25 (.lend [1]) Ayj:=Cb [(23,(.lend [1]),Hd)] ⟨Hn,trivial⟩ ⟨[vS 0 (sW (.sl 95 h_8) 3000000),vI 1,vI 5],[],[3000000]⟩ 3000000 [(.exit 0,⟨[vS 0 (sW (.sl 95 h_8) 3000000),vI 1],[],[3000000]⟩)] 2 Mz Tryz.func25 1
def Im:An:=Ao [g_0,g_1] (fun d=>(Aga d.1 d.2.1).val) (Fo g_1)
theorem Ix:Fq 116 Im:=Cb [] trivial ⟨[vS 0 sB,vI 1,vI 5],[],[]⟩ 3000000 [(.ret,⟨[vI 4],[],[]⟩),(.exit 0,⟨[vI 1],[],[]⟩)] 2 M0 Tryz.func116 0
def Aqz:An:=Ao [g_2,g_1] (fun d=>(Acm d.1 d.2.1).val) (Fo g_1)
theorem Ba7:Fq 111 Aqz:=Cb [Fz 116 Im] ⟨Ix,trivial⟩ ⟨[vS 0 (sR (.sl 22 [.sl 5 [.int .u8]])),vI 1,vI 5],[],[]⟩ 3000000 [(.ret,⟨[vI 4],[],[]⟩),(.exit 0,⟨[vI 1],[],[]⟩)] 2 Lr Tryz.func111 0
def A5l:An:=Ao [g_3,g_1] (fun d=>(Aom d.1 d.2.1).val) (Fo g_1)
theorem Bk5:Fq 112 A5l:=mkF [Fz 116 Im] ⟨Ix,trivial⟩ Tryz.func112 0
def A1e:An:=Ao [g_4,g_1] (fun d=>(Ajt d.1 d.2.1).val) (Fo g_1)
theorem Bi0:Fq 113 A1e:=mkF [Fz 116 Im] ⟨Ix,trivial⟩ Tryz.func113 0
def A1f:An:=Ao [g_5,g_1] (fun d=>(Aju d.1 d.2.1).val) (Fo g_1)
theorem Bi1:Fq 274 A1f:=Cb [] trivial ⟨[vS 0 sL,vI 1,vI 5],[],[]⟩ 3000000 [(.ret,⟨[vI 4],[],[]⟩),(.exit 0,⟨[vI 1],[],[]⟩)] 2 Pa Tryz.func274 0
def Ayk:An:=Ao [Bcs,g_1] (fun d=>(Agb d.1 d.2.1).val) (Fo g_1)
theorem Bdw:Fq 275 Ayk:=Cb [Fz 116 Im] ⟨Ix,trivial⟩ ⟨[vS 0 (sR (.sl 228 h_4)),vI 1,vI 5],[],[]⟩ 3000000 [(.ret,⟨[vI 4],[],[]⟩),(.exit 0,⟨[vI 1],[],[]⟩)] 2 M4 Tryz.func275 0
def Ayl:An:=Ao [Bct,g_1] (fun d=>(Agc d.1 d.2.1).val) (Fo g_1)
theorem Bdx:Fq 207 Ayl:=Cb [Fz 116 Im,Fz 274 A1f,Fz 275 Ayk] ⟨Ix,Bi1,Bdw,trivial⟩ ⟨[vS 0 (sR (.sl 113 D6)),vI 1,vI 5],[],[]⟩ 3000000 [(.ret,⟨[vI 4],[],[]⟩),(.exit 0,⟨[vI 1],[],[]⟩)] 2 M5 Tryz.func207 0
def A5m:An:=Ao [Kj,g_1] (fun d=>(Aon d.1 d.2.1).val) (Fo g_1)
theorem Bk6:Fq 114 A5m:=mkF [Fz 207 Ayl] ⟨Bdx,trivial⟩ Tryz.func114 0
def Alw:An:=Ao [Ll,g_1] (fun d=>(Aa0 d.1 d.2.1).val) (Fo g_1)
theorem A7o:Fq 115 Alw:=Cb [] trivial ⟨[vS 0 (sR (.sl 175 h_2)),vI 1,vI 5],[],[]⟩ 3000000 [(.ret,⟨[vI 4],[],[]⟩),(.exit 0,⟨[vI 1],[],[]⟩)] 2 Kb Tryz.func115 0
def Aq0:An:=Ao [Hv,g_1] (fun d=>(Acn d.1 d.2.1).val) (Fo g_1)
theorem Ba8:Fq 26 Aq0:=mkF [Fz 111 Aqz,Fz 112 A5l,Fz 113 A1e,Fz 114 A5m,Fz 115 Alw] ⟨Ba7,Bk5,Bi0,Bk6,A7o,trivial⟩ Tryz.func26 0
def A1g:An:=Ao [Sf,g_1] (fun d=>(Ajv d.1 d.2.1).val) (Fo g_1)
theorem Bi2:Fq 27 A1g:=Cb [Fz 116 Im] ⟨Ix,trivial⟩ ⟨[vS 0 (sR (.sl 85 Xd)),vI 1,vI 5],[],[]⟩ 3000000 [(.ret,⟨[vI 4],[],[]⟩),(.exit 0,⟨[vI 1],[],[]⟩)] 2 Pb Tryz.func27 0
def Aym:An:=Ao [Vq,g_1] (fun d=>(Agd d.1 d.2.1).val) (Fo g_1)
theorem Bdy:Fq 28 Aym:=Cb [Fz 116 Im] ⟨Ix,trivial⟩ ⟨[vS 0 (sR (.sl 95 h_8)),vI 1,vI 5],[],[]⟩ 3000000 [(.ret,⟨[vI 4],[],[]⟩),(.exit 0,⟨[vI 1],[],[]⟩)] 2 M6 Tryz.func28 0
end
end Go.Proofs.YthccfdmiejmbaaaGreat

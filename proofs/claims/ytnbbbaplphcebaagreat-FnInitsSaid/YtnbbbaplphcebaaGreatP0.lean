/-
  That the functions of the seat answer what the terms of text W say; nothing is assumed.
-/
import Derived.Test.YtnbbbaplphcebaaGreatW
import Derived.Test.YtnbbbaplphcebaaGreatProg
import Derived.KernelRfl
namespace Go.Proofs.YtnbbbaplphcebaaGreat
open Go.RowKit
set_option linter.unusedVariables false
set_option maxRecDepth 100000
set_option maxHeartbeats 4000000
noncomputable section
abbrev h_0:List Sh:=[.int .i64,.int .i64,.bool,.int .u8]
abbrev h_1:List Sh:=[.sl 5 [.int .u8],.int .i64,.int .i64]
abbrev h_2:List Sh:=[.int .i64,.int .i64,.int .i64,.int .i64]
abbrev h_3:List Sh:=[.sl 3 [.int .i64],.sl 5 [.int .u8],.int .i64]
abbrev h_4:List Sh:=[.int .i64,.int .i64,.sl 5 [.int .u8],.int .i64]
abbrev h_5:List Sh:=[.int .i64,.sl 5 [.int .u8],.int .i64,.int .i64,.sl 3 [.int .i64]]
abbrev h_6:List Sh:=[.int .i64,.int .i64,.sl 188 h_4]
abbrev h_7:List Sh:=[.int .i64,.int .i64,.int .i64,.sl 5 [.int .u8],.sl 5 [.int .u8],.int .i64,.int .i64,.sl 5 [.int .u8],.sl 5 [.int .u8],.int .i64,.int .i64,.int .i64]
abbrev h_8:List Sh:=[.int .i64,.int .i64,.sl 5 [.int .u8],.sl 5 [.int .u8],.int .i64,.sl 5 [.int .u8],.sl 5 [.int .u8],.int .i64,.int .i64,.sl 5 [.int .u8],.sl 5 [.int .u8]]
abbrev h_9:List Sh:=[.int .i64,.int .i64,.int .i64,.int .i64,.sl 5 [.int .u8],.sl 5 [.int .u8],.int .i64,.sl 5 [.int .u8],.sl 5 [.int .u8],.int .i64,.int .i64,.sl 5 [.int .u8],.sl 5 [.int .u8]]
abbrev Brv:List Sh:=[.int .i64,.sl 5 [.int .u8],.int .i64,.sl 5 [.int .u8],.int .i64,.int .i64,.sl 3 [.int .i64],.int .i64,.sl 5 [.int .u8],.int .i64,.int .i64,.sl 3 [.int .i64],.bool,.int .i64,.sl 5 [.int .u8]]
abbrev Eb:List Sh:=[.int .i64,.sl 5 [.int .u8],.sl 5 [.int .u8],.int .i64,.sl 5 [.int .u8],.int .i64,.sl 5 [.int .u8],.int .i64,.int .i64,.sl 3 [.int .i64],.int .i64,.sl 5 [.int .u8],.int .i64,.int .i64,.sl 3 [.int .i64],.bool,.int .i64,.sl 5 [.int .u8],.int .i64,.int .i64,.sl 188 h_4,.int .i64,.int .i64,.bool]
abbrev Brw:List Sh:=[.sl 22 [.sl 5 [.int .u8]],.sl 5 [.int .u8],.sl 5 [.int .u8],.int .i64,.int .i64,.sl 88 Eb,.sl 53 h_2]
abbrev g_0:Bool×List Sh:=(false,[.sl 5 [.int .u8]])
abbrev g_1:Bool×List Sh:=(false,[.bool])
abbrev g_2:Bool×List Sh:=(true,h_1)
abbrev g_3:Bool×List Sh:=(false,[.int .i64])
abbrev g_4:Bool×List Sh:=(false,[.sl 22 [.sl 5 [.int .u8]]])
abbrev g_5:Bool×List Sh:=(true,[.sl 5 [.int .u8],.int .i64])
abbrev g_6:Bool×List Sh:=(false,[.sl 3 [.int .i64]])
abbrev g_7:Bool×List Sh:=(false,[.str])
abbrev g_8:Bool×List Sh:=(true,[.sl 5 [.int .u8]])
abbrev g_9:Bool×List Sh:=(true,[.int .i64,.sl 88 Eb])
abbrev Ox:Bool×List Sh:=(true,h_5)
abbrev Ik:Bool×List Sh:=(true,Brv)
abbrev Fg:Bool×List Sh:=(true,[.int .i64,.int .i64])
abbrev M5:Bool×List Sh:=(true,[.int .i64,.sl 3 [.int .i64]])
abbrev I5:Bool×List Sh:=(true,h_6)
abbrev Lc:Bool×List Sh:=(true,Eb)
abbrev Qq:Bool×List Sh:=(false,[.sl 53 h_2])
abbrev Lu:Bool×List Sh:=(true,Brw)
abbrev F9:Bool×List Sh:=(true,h_8)
abbrev Brx:Bool×List Sh:=(true,h_4)
abbrev Bau:Bool×List Sh:=(true,h_3)
abbrev Bte:Bool×List Sh:=(false,[.int .u8])
abbrev Bil:Bool×List Sh:=(true,h_7)
abbrev Asm:Bool×List Sh:=(false,[.sl 50 h_9])
abbrev Asn:Bool×List Sh:=(false,[.sl 92 h_7])
def tys:List (Nat×Ty):=[(3,⟨false,[.int .i64],[],false,[]⟩),
 (4,⟨false,[.bool],[],false,[]⟩),
 (5,⟨false,[.int .u8],[],false,[]⟩),
 (9,⟨false,[.str],[],false,[]⟩),
 (22,⟨false,[.sl 5 [.int .u8]],[],false,[]⟩),
 (24,⟨false,[.sl 22 [.sl 5 [.int .u8]]],[],false,[]⟩),
 (26,⟨true,[.sl 5 [.int .u8]],[(0,1)],false,[]⟩),
 (28,⟨true,[.sl 5 [.int .u8],.int .i64],[(0,1),(1,1)],false,[]⟩),
 (29,⟨false,[.sl 88 Eb],[],false,[]⟩),
 (31,⟨true,[.int .i64,.sl 88 Eb],[(0,1),(1,1)],false,[]⟩),
 (32,⟨false,[.sl 53 h_2],[],false,[]⟩),
 (34,⟨true,Brw,[(0,1),(1,1),(2,2),(4,2),(6,1)],false,[]⟩),
 (36,⟨true,[.int .i64,.int .i64],[(0,1),(1,1)],true,[]⟩),
 (39,⟨false,[.sl 50 h_9],[],false,[]⟩),
 (40,⟨false,[.sl 92 h_7],[],false,[]⟩),
 (48,⟨true,h_8,[(0,1),(1,1),(2,1),(3,1),(4,1),(5,1),(6,1),(7,1),(8,1),(9,1),(10,1)],false,[]⟩),
 (50,⟨true,h_9,[(0,2),(2,11)],false,[]⟩),
 (53,⟨true,h_2,[(0,2),(2,1),(3,1)],true,[]⟩),
 (77,⟨false,[.sl 3 [.int .i64]],[],false,[]⟩),
 (79,⟨true,[.int .i64,.sl 3 [.int .i64]],[(0,1),(1,1)],false,[]⟩),
 (81,⟨true,h_5,[(0,1),(1,1),(2,1),(3,2)],false,[]⟩),
 (83,⟨true,Brv,[(0,1),(1,1),(2,5),(7,5),(12,1),(13,1),(14,1)],false,[]⟩),
 (84,⟨false,[.sl 188 h_4],[],false,[]⟩),
 (86,⟨true,h_6,[(0,2),(2,1)],false,[36,84]⟩),
 (88,⟨true,Eb,[(0,1),(1,1),(2,1),(3,15),(18,3),(21,1),(22,1),(23,1)],false,[]⟩),
 (92,⟨true,h_7,[(0,1),(1,1),(2,1),(3,1),(4,1),(5,1),(6,1),(7,1),(8,1),(9,2),(11,1)],false,[]⟩),
 (127,⟨true,h_1,[(0,1),(1,1),(2,1)],false,[]⟩),
 (188,⟨true,h_4,[(0,2),(2,1),(3,1)],false,[]⟩),
 (216,⟨false,[.int .u64],[],false,[]⟩),
 (246,⟨true,h_3,[(0,1),(1,1),(2,1)],false,[]⟩)]
theorem J3:Bim Tryz.prog tys=true:=by kernel_rfl
theorem Nm:Tryz.prog.follows .mixedOrders=true:=by kernel_rfl
abbrev D7 (C:Fns):Cfg:=⟨A1y tys,Aaw C,Wm C,3,4⟩
theorem mkF {f:FuncId} {fn:Func} {kd:Kind} {ps:List (Bool×List Sh)} {R:Type} {T:M6 ps->Tree R} {rvs:R->List RV×List RV} (C:Fns) (hc:Lp Tryz.prog C) (hf:Tryz.prog.funcs[f]? =some fn) (np:Nat) (hn:(fn.name== "runtime.NumGoroutine")=false:=by kernel_rfl) (hb:fn.body.isSome=true:=by kernel_rfl) (hl:B5 (fn.body.getD .skip)=[]:=by kernel_rfl)
  (he: ∀d,Ig (D7 C) np (fun _ _=>.fail) fn kd (mkA ps d)=(T d).run fun r=>some (rvs r):=by intro d;kernel_rfl):Fn Tryz.prog f kd (As ps (fun d=>(T d).val) rvs):=
 Oy (Gz Nm J3 hc) hf hn hb (fun cx b hp hbb=>by rw[hl]at hbb;cases hbb) he
abbrev lpq (r:Nat) (K:Sk) (z:Nat) (X:List (Ex×Sk)) (B:K.den->Option (K.den⊕Vl X)):G5:=fun i st=>cond (Nat.beq i r) (lam K z X B st) .fail
theorem Df {f:FuncId} {fn:Func} {kd:Kind} {ps:List (Bool×List Sh)} {R:Type} {T:M6 ps->Tree R} {rvs:R->List RV×List RV} (C:Fns) (hc:Lp Tryz.prog C) (K:Sk) (z:Nat) (X:List (Ex×Sk)) (r:Nat) (B:K.den->Option (K.den⊕Vl X)) (hf:Tryz.prog.funcs[f]? =some fn) (np:Nat) (hn:(fn.name== "runtime.NumGoroutine")=false:=by kernel_rfl) (hb:fn.body.isSome=true:=by kernel_rfl) (h1:B5 (fn.body.getD .skip)=[Bd fn 0]:=by kernel_rfl) (h2:B5 (Bd fn 0)=[]:=by kernel_rfl)
  (hq:lpq r K z X B (Pn (Bd fn 0))=lam K z X B:=by kernel_rfl) (hl: ∀d,bod (D7 C) np fn.ntmps (lpq r K z X B) (Bd fn 0) K z X d=B d:=by intro d;kernel_rfl)
  (he: ∀d,Ig (D7 C) np (lpq r K z X B) fn kd (mkA ps d)=(T d).run fun r=>some (rvs r):=by intro d;kernel_rfl):Fn Tryz.prog f kd (As ps (fun d=>(T d).val) rvs):=
 Oy (Gz Nm J3 hc) hf hn hb (fun cx b hp hbb=>Ds h1 ⟨Fp (Gz Nm J3 hc) hp (Ds h2 trivial) hq hl,trivial⟩ b hbb) he
abbrev Fq (f:FuncId) (F:Au):Prop:=Fn Tryz.prog f .plain F
abbrev Fz (f:FuncId) (F:Au):FuncId×Kind×Au:=(f,.plain,F)
abbrev Fo (g:Bool×List Sh) (r:dens g.2):List RV×List RV:=([rv g r],[])
def Bg2:Au:=As [g_0] (fun d=>(Bg3 d.1).val) (Fo g_1)
theorem Boe:Fq 6 Bg2:=mkF [] trivial Tryz.func6 0
def A7a:Au:=As [g_0] (fun d=>(Aso d.1).val) (Fo g_2)
theorem Bin:Fn Tryz.prog 22 .ret A7a:=Df [] trivial ⟨[(0,.v false [(.sl 5 [.int .u8],.ro)]),(3,.v false [(.int .i64,.nil)]),(4,.v false [(.int .i64,.nil)])],[],[]⟩ 4000000 [((.exit 0),⟨[(0,.v false [(.sl 5 [.int .u8],.ro)]),(3,.v false [(.int .i64,.nil)])],[],[]⟩)] 3 Aax Tryz.func22 0
def Wn:Au:=As [g_2] (fun d=>(Am4 d.1).val) fun r=>([rv g_3 r.1],[rv g_2 r.2])
theorem Aay:Fn Tryz.prog 169 (.box [3] true true) Wn:=mkF [] trivial Tryz.func169 1
def D9:Au:=As [g_2,g_3] (fun d=>(Ai6 d.1 d.2.1).val) fun r=>([rv g_3 r.1],[rv g_2 r.2])
theorem D5:Fn Tryz.prog 85 (.box [3] true true) D9:=mkF [(169,(.box [3] true true),Wn)] ⟨Aay,trivial⟩ Tryz.func85 1
def Iw:Au:=As [g_2,g_3] (fun d=>(Ai7 d.1 d.2.1).val) fun r=>([rv g_0 r.1],[rv g_2 r.2])
theorem I6:Fn Tryz.prog 84 (.box [3] true true) Iw:=Df [(169,(.box [3] true true),Wn)] ⟨Aay,trivial⟩ ⟨[(0,.box 0 0),(1,.v false [(.int .i64,.nil)]),(5,.v false [(.sl 5 [.int .u8],(.own 4000000))]),(6,.v false [(.int .i64,.nil)])],[(0,[(.sl 5 [.int .u8],(.pin 0)),(.int .i64,.nil),(.int .i64,.nil)])],[4000000]⟩ 4000000 [((.exit 0),⟨[(0,.box 0 0),(5,.v false [(.sl 5 [.int .u8],(.own 4000000))])],[(0,[(.sl 5 [.int .u8],(.pin 0)),(.int .i64,.nil),(.int .i64,.nil)])],[4000000]⟩)] 3 Po Tryz.func84 1
def Aw9:Au:=As [g_2] (fun d=>(Aaz d.1).val) fun r=>([rv g_4 r.1],[rv g_2 r.2])
theorem Bav:Fn Tryz.prog 83 (.box [3] true true) Aw9:=Df [(85,(.box [3] true true),D9),(84,(.box [3] true true),Iw)] ⟨D5,I6,trivial⟩ ⟨[(0,.box 0 0),(3,.v false [(.sl 22 [.sl 5 [.int .u8]],(.own 4000000))]),(4,.v false [(.int .i64,.nil)])],[(0,[(.sl 5 [.int .u8],(.pin 0)),(.int .i64,.nil),(.int .i64,.nil)])],[4000000]⟩ 4000000 [((.exit 0),⟨[(0,.box 0 0),(3,.v false [(.sl 22 [.sl 5 [.int .u8]],(.own 4000000))])],[(0,[(.sl 5 [.int .u8],(.pin 0)),(.int .i64,.nil),(.int .i64,.nil)])],[4000000]⟩)] 3 Ly Tryz.func83 1
def Axa:Au:=As [g_5] (fun d=>(Ai8 d.1).val) (Fo g_5)
theorem Baw:Fq 134 Axa:=mkF [] trivial Tryz.func134 0
def Cy:Au:=As [g_3,g_3,g_3] (fun d=>(Azj d.1 d.2.1 d.2.2.1).val) (Fo g_1)
theorem Cp:Fq 51 Cy:=mkF [] trivial Tryz.func51 0
def Am5:Au:=As [g_5] (fun d=>(Am6 d.1).val) (Fo g_1)
theorem Axb:Fq 75 Am5:=mkF [Fz 51 Cy] ⟨Cp,trivial⟩ Tryz.func75 0
def Ld:Au:=As [g_0,g_3,g_3] (fun d=>(Azk d.1 d.2.1 d.2.2.1).val) (Fo g_0)
theorem Km:Fq 143 Ld:=Df [] trivial ⟨[(1,.v false [(.int .i64,.nil)]),(7,.v false [(.sl 5 [.int .u8],(.own 6000000))]),(8,.v false [(.int .i64,.nil)])],[],[6000000]⟩ 6000000 [((.exit 0),⟨[(7,.v false [(.sl 5 [.int .u8],(.own 6000000))])],[],[6000000]⟩)] 5 Wo Tryz.func143 0
def Bg4:Au:=As [g_3] (fun d=>(A43 d.1).val) (Fo g_0)
theorem Bof:Fq 277 Bg4:=Df [Fz 143 Ld] ⟨Km,trivial⟩ ⟨[(0,.v false [(.int .i64,.nil)]),(3,.v false [(.sl 5 [.int .u8],(.own 5000000))])],[],[5000000]⟩ 5000000 [((.exit 0),⟨[(0,.v false [(.int .i64,.nil)]),(3,.v false [(.sl 5 [.int .u8],(.own 5000000))])],[],[5000000]⟩)] 4 Asp Tryz.func277 0
def A7b:Au:=As [] (fun d=>(A7c).val) (Fo g_6)
theorem Bio:Fq 278 A7b:=mkF [] trivial Tryz.func278 0
def Axc:Au:=As [g_6] (fun d=>(Ai9 d.1).val) (Fo g_1)
theorem Bax:Fq 296 Axc:=Df [Fz 51 Cy] ⟨Cp,trivial⟩ ⟨[(0,.v false [(.sl 3 [.int .i64],.ro)]),(3,.v false [(.int .i64,.nil)])],[],[]⟩ 3000000 [(.ret,⟨[(2,.v false [(.bool,.nil)])],[],[]⟩),((.exit 0),⟨[(0,.v false [(.sl 3 [.int .i64],.ro)])],[],[]⟩)] 2 Pp Tryz.func296 0
def Bg5:Au:=As [] (fun d=>(Bg6).val) (Fo g_6)
theorem Bog:Fq 297 Bg5:=mkF [] trivial Tryz.func297 0
def Bay:Au:=As [g_0,g_3,g_3] (fun d=>(Azl d.1 d.2.1 d.2.2.1).val) fun r=>([rv g_3 r.1,rv g_3 r.2.1,rv g_1 r.2.2],[])
theorem Blh:Fq 137 Bay:=Df [] trivial ⟨[(0,.v false [(.sl 5 [.int .u8],.ro)]),(1,.v false [(.int .i64,.nil)]),(2,.v false [(.int .i64,.nil)]),(9,.v false [(.int .i64,.nil)]),(10,.v false [(.int .i64,.nil)])],[],[]⟩ 6000000 [((.exit 0),⟨[(1,.v false [(.int .i64,.nil)]),(2,.v false [(.int .i64,.nil)]),(9,.v false [(.int .i64,.nil)])],[],[]⟩)] 5 Su Tryz.func137 0
def A44:Au:=As [g_3,g_3] (fun d=>(A45 d.1 d.2.1).val) (Fo g_3)
theorem Baz:Fq 299 A44:=mkF [] trivial Tryz.func299 0
def Asq:Au:=As [g_0] (fun d=>(Wp d.1).val) (Fo g_6)
def Q5:Fns:=[Fz 137 Bay,Fz 299 A44]
theorem Aex:CfgOk Tryz.prog (D7 Q5):=Gz Nm J3 (show Lp Tryz.prog Q5 from⟨Blh,Baz,trivial⟩)
def Ahk:Sk:=⟨[(3,.v false [(.sl 3 [.int .i64],(.own 11000000))]),(8,.v false [(.int .i64,.nil)])],[],[11000000]⟩
def Ahl:List (Ex×Sk):=[((.exit 2),⟨[(3,.v false [(.sl 3 [.int .i64],(.own 11000000))])],[],[11000000]⟩)]
def Alc:Sk:=⟨[(0,.v false [(.sl 5 [.int .u8],.ro)]),(3,.v false [(.sl 3 [.int .i64],(.own 6000000))]),(4,.v false [(.int .i64,.nil)])],[],[6000000]⟩
def Ald:List (Ex×Sk):=[((.exit 0),⟨[(3,.v false [(.sl 3 [.int .i64],(.own 6000000))])],[],[6000000]⟩)]
def Q6:G5:=fun i st=>cond (Nat.beq i 5) (lam Alc 6000000 Ald Kt st) <| cond (Nat.beq i 10) (lam Ahk 11000000 Ahl Jm st) <| .fail
theorem A1z (cx:Cx) (hp:cx.pin.length<=0):Ee Tryz.prog cx Tryz.f298.ntmps Q6 (Bd Tryz.f298 0):=Fp Aex hp (Ds (by kernel_rfl:B5 (Bd Tryz.f298 0)=[]) trivial) (by kernel_rfl) (fun d=>(by kernel_rfl:bod (D7 Q5) 0 Tryz.f298.ntmps Q6 (Bd Tryz.f298 0) Alc 6000000 Ald d=Kt d))
theorem Azm (cx:Cx) (hp:cx.pin.length<=0):Ee Tryz.prog cx Tryz.f298.ntmps Q6 (Bd Tryz.f298 1):=Fp Aex hp (Ds (by kernel_rfl:B5 (Bd Tryz.f298 1)=[]) trivial) (by kernel_rfl) (fun d=>(by kernel_rfl:bod (D7 Q5) 0 Tryz.f298.ntmps Q6 (Bd Tryz.f298 1) Ahk 11000000 Ahl d=Jm d))
theorem A9h:Fq 298 Asq:=Oy Aex Tryz.func298 (by kernel_rfl) (by kernel_rfl) (fun cx b hp hb=>Ds (by kernel_rfl:B5 (Tryz.f298.body.getD .skip)=[Bd Tryz.f298 0,Bd Tryz.f298 1]) ⟨A1z cx hp,Azm cx hp,trivial⟩ b hb) (fun d=>(by kernel_rfl:Ig (D7 Q5) 0 Q6 Tryz.f298 .plain (mkA [g_0] d)=(Wp d.1).run fun r=>some ([rv g_6 r],[])))
def Asr:Au:=As [g_6,g_0] (fun d=>(Wq d.1 d.2.1).val) (Fo g_6)
def Q7:Fns:=[Fz 296 Axc,Fz 297 Bg5,Fz 298 Asq,Fz 299 A44]
theorem Aey:CfgOk Tryz.prog (D7 Q7):=Gz Nm J3 (show Lp Tryz.prog Q7 from⟨Bax,Bog,A9h,Baz,trivial⟩)
def Ahm:Sk:=⟨[(0,.v false [(.sl 3 [.int .i64],.ro)]),(5,.v false [(.sl 3 [.int .i64],(.own 23000000))]),(19,.v false [(.sl 3 [.int .i64],(.own 23000001))]),(20,.v false [(.int .i64,.nil)])],[],[23000000,23000001]⟩
def Ahn:List (Ex×Sk):=[((.exit 2),⟨[(5,.v false [(.sl 3 [.int .i64],(.own 23000000))])],[],[23000000]⟩)]
def Ale:Sk:=⟨[(0,.v false [(.sl 3 [.int .i64],.ro)]),(5,.v false [(.sl 3 [.int .i64],(.own 9000000))]),(6,.v false [(.sl 3 [.int .i64],(.own 9000001))]),(7,.v false [(.sl 3 [.int .i64],(.own 9000002))]),(8,.v false [(.int .i64,.nil)]),(9,.v false [(.int .i64,.nil)]),(10,.v false [(.int .i64,.nil)]),(11,.v false [(.int .i64,.nil)]),(12,.v false [(.int .i64,.nil)]),(13,.v false [(.int .i64,.nil)]),(14,.v false [(.int .i64,.nil)]),(15,.v false [(.int .i64,.nil)]),(16,.v false [(.int .i64,.nil)])],[],[9000000,9000001,9000002]⟩
def Alf:List (Ex×Sk):=[((.exit 0),⟨[(0,.v false [(.sl 3 [.int .i64],.ro)]),(5,.v false [(.sl 3 [.int .i64],(.own 9000000))]),(8,.v false [(.int .i64,.nil)]),(9,.v false [(.int .i64,.nil)]),(10,.v false [(.int .i64,.nil)]),(11,.v false [(.int .i64,.nil)]),(12,.v false [(.int .i64,.nil)]),(13,.v false [(.int .i64,.nil)]),(14,.v false [(.int .i64,.nil)]),(15,.v false [(.int .i64,.nil)])],[],[9000000]⟩)]
def Q8:G5:=fun i st=>cond (Nat.beq i 8) (lam Ale 9000000 Alf Il st) <| cond (Nat.beq i 22) (lam Ahm 23000000 Ahn H0 st) <| .fail
theorem A10 (cx:Cx) (hp:cx.pin.length<=0):Ee Tryz.prog cx Tryz.f279.ntmps Q8 (Bd Tryz.f279 0):=Fp Aey hp (Ds (by kernel_rfl:B5 (Bd Tryz.f279 0)=[]) trivial) (by kernel_rfl) (fun d=>(by kernel_rfl:bod (D7 Q7) 0 Tryz.f279.ntmps Q8 (Bd Tryz.f279 0) Ale 9000000 Alf d=Il d))
theorem Azn (cx:Cx) (hp:cx.pin.length<=0):Ee Tryz.prog cx Tryz.f279.ntmps Q8 (Bd Tryz.f279 1):=Fp Aey hp (Ds (by kernel_rfl:B5 (Bd Tryz.f279 1)=[]) trivial) (by kernel_rfl) (fun d=>(by kernel_rfl:bod (D7 Q7) 0 Tryz.f279.ntmps Q8 (Bd Tryz.f279 1) Ahm 23000000 Ahn d=H0 d))
theorem A9i:Fq 279 Asr:=Oy Aey Tryz.func279 (by kernel_rfl) (by kernel_rfl) (fun cx b hp hb=>Ds (by kernel_rfl:B5 (Tryz.f279.body.getD .skip)=[Bd Tryz.f279 0,Bd Tryz.f279 1]) ⟨A10 cx hp,Azn cx hp,trivial⟩ b hb) (fun d=>(by kernel_rfl:Ig (D7 Q7) 0 Q8 Tryz.f279 .plain (mkA [g_6,g_0] d)=(Wq d.1 d.2.1).run fun r=>some ([rv g_6 r],[])))
def A7d:Au:=As [g_6] (fun d=>(Ass d.1).val) (Fo g_0)
theorem Bip:Fq 280 A7d:=Df [Fz 143 Ld] ⟨Km,trivial⟩ ⟨[(0,.v false [(.sl 3 [.int .i64],.ro)]),(3,.v false [(.sl 5 [.int .u8],(.own 4000000))]),(4,.v false [(.int .i64,.nil)])],[],[4000000]⟩ 4000000 [((.exit 0),⟨[(3,.v false [(.sl 5 [.int .u8],(.own 4000000))])],[],[4000000]⟩)] 3 Qc Tryz.func280 0
def A46:Au:=As [g_0] (fun d=>(A47 d.1).val) (Fo g_0)
theorem Ba0:Fq 252 A46:=Df [Fz 277 Bg4,Fz 278 A7b,Fz 279 Asr,Fz 280 A7d] ⟨Bof,Bio,A9i,Bip,trivial⟩ ⟨[(3,.v false [(.sl 5 [.int .u8],(.own 7000000))]),(4,.v false [(.sl 3 [.int .i64],(.own 7000001))]),(5,.v false [(.int .i64,.nil)])],[],[7000000,7000001]⟩ 7000000 [((.exit 0),⟨[(4,.v false [(.sl 3 [.int .i64],(.own 7000000))])],[],[7000000]⟩)] 6 V3 Tryz.func252 0
def Ast:Au:=As [g_0] (fun d=>(Aez d.1).val) (Fo g_0)
theorem A9j:Fq 251 Ast:=Df [Fz 252 A46] ⟨Ba0,trivial⟩ ⟨[(3,.v false [(.sl 5 [.int .u8],(.own 7000000))])],[],[7000000]⟩ 7000000 [((.exit 0),⟨[(3,.v false [(.sl 5 [.int .u8],(.own 7000000))])],[],[7000000]⟩)] 6 Sv Tryz.func251 0
def Zr:Au:=As [g_0,g_0] (fun d=>(Azo d.1 d.2.1).val) (Fo g_0)
theorem Abw:Fq 204 Zr:=Df [Fz 251 Ast,Fz 252 A46] ⟨A9j,Ba0,trivial⟩ ⟨[(1,.v false [(.sl 5 [.int .u8],.ro)]),(5,.v false [(.sl 5 [.int .u8],(.own 8000000))]),(6,.v false [(.sl 5 [.int .u8],(.own 8000001))]),(7,.v false [(.sl 5 [.int .u8],(.own 8000002))]),(8,.v false [(.int .i64,.nil)])],[],[8000000,8000001,8000002]⟩ 8000000 [((.exit 0),⟨[(1,.v false [(.sl 5 [.int .u8],.ro)]),(6,.v false [(.sl 5 [.int .u8],(.own 8000000))]),(7,.v false [(.sl 5 [.int .u8],(.own 8000001))])],[],[8000000,8000001]⟩)] 7 Sw Tryz.func204 0
def A11:Au:=As [g_0,g_3] (fun d=>(Am7 d.1 d.2.1).val) (Fo g_0)
theorem Be6:Fq 140 A11:=mkF [Fz 51 Cy,Fz 143 Ld,Fz 204 Zr] ⟨Cp,Km,Abw,trivial⟩ Tryz.func140 0
def Ba1:Au:=As [g_5] (fun d=>(Azp d.1).val) fun r=>([rv g_5 r.1,rv g_0 r.2],[])
theorem Bli:Fq 56 Ba1:=mkF [Fz 134 Axa,Fz 75 Am5,Fz 140 A11] ⟨Baw,Axb,Be6,trivial⟩ Tryz.func56 0
def A12:Au:=As [g_0,g_0,g_3] (fun d=>(Am8 d.1 d.2.1 d.2.2.1).val) fun r=>([rv g_0 r.1,rv g_1 r.2],[])
theorem Be7:Fq 216 A12:=Df [Fz 51 Cy,Fz 204 Zr] ⟨Cp,Abw,trivial⟩ ⟨[(0,.v false [(.sl 5 [.int .u8],.ro)]),(1,.v false [(.sl 5 [.int .u8],.ro)]),(2,.v false [(.int .i64,.nil)]),(8,.v false [(.sl 5 [.int .u8],(.own 7000000))]),(9,.v false [(.sl 5 [.int .u8],(.own 7000001))]),(10,.v false [(.int .i64,.nil)])],[],[7000000,7000001]⟩ 7000000 [((.exit 0),⟨[(2,.v false [(.int .i64,.nil)]),(8,.v false [(.sl 5 [.int .u8],(.own 7000000))])],[],[7000000]⟩)] 6 Np Tryz.func216 0
def Sx:Au:=As [g_0,g_7] (fun d=>(Am9 d.1 d.2.1).val) (Fo g_0)
theorem T5:Fq 154 Sx:=mkF [Fz 216 A12] ⟨Be7,trivial⟩ Tryz.func154 0
def A13:Au:=As [g_0] (fun d=>(Ana d.1).val) (Fo g_8)
theorem Be8:Fq 167 A13:=mkF [Fz 154 Sx] ⟨T5,trivial⟩ Tryz.func167 0
def Anb:Au:=As [g_3] (fun d=>(Adm d.1).val) (Fo g_9)
theorem Axd:Fq 168 Anb:=mkF [Fz 51 Cy] ⟨Cp,trivial⟩ Tryz.func168 0
def Asu:Au:=As [g_8] (fun d=>(A7e d.1).val) (Fo g_1)
theorem A14:Fq 74 Asu:=mkF [] trivial Tryz.func74 0
def Azq:Au:=As [g_9] (fun d=>(Azr d.1).val) (Fo g_3)
theorem A7f:Fq 152 Azq:=Df [] trivial ⟨[(1,.box 1 0),(3,.v false [(.int .i64,.nil)]),(4,.v false [(.int .i64,.nil)])],[(1,[(.int .i64,.nil),(.sl 88 Eb,.ro)])],[]⟩ 4000000 [((.exit 0),⟨[(3,.v false [(.int .i64,.nil)])],[],[]⟩)] 3 Wr Tryz.func152 0
def Aja:Au:=As [Ox] (fun d=>(Ajb d.1).val) (Fo g_1)
theorem Asv:Fq 254 Aja:=mkF [] trivial Tryz.func254 0
def Arl:Au:=As [Ik] (fun d=>(Aco d.1).val) (Fo g_1)
theorem A48:Fq 211 Arl:=mkF [Fz 254 Aja] ⟨Asv,trivial⟩ Tryz.func211 0
def Q9:Au:=As [g_3] (fun d=>(Ae0 d.1).val) (Fo Fg)
theorem Ra:Fq 88 Q9:=mkF [Fz 51 Cy] ⟨Cp,trivial⟩ Tryz.func88 0
def Asw:Au:=As [M5,g_3] (fun d=>(Asx d.1 d.2.1).val) (Fo g_1)
theorem A15:Fq 284 Asw:=mkF [] trivial Tryz.func284 0
def Asy:Au:=As [M5] (fun d=>(Aho d.1).val) (Fo g_1)
def Abx:Fns:=[Fz 51 Cy,Fz 284 Asw]
theorem Asz:CfgOk Tryz.prog (D7 Abx):=Gz Nm J3 (show Lp Tryz.prog Abx from⟨Cp,A15,trivial⟩)
def As0:Sk:=⟨[(1,.box 1 0),(4,.v false [(.int .i64,.nil)])],[(1,[(.int .i64,.nil),(.sl 3 [.int .i64],.ro)])],[]⟩
def As1:List (Ex×Sk):=[(.ret,⟨[(2,.v false [(.bool,.nil)])],[],[]⟩),((.exit 2),⟨[],[],[]⟩)]
def Axe:Sk:=⟨[(1,.box 1 0),(3,.v false [(.int .i64,.nil)])],[(1,[(.int .i64,.nil),(.sl 3 [.int .i64],.ro)])],[]⟩
def Axf:List (Ex×Sk):=[(.ret,⟨[(2,.v false [(.bool,.nil)])],[],[]⟩),((.exit 0),⟨[(1,.box 1 0)],[(1,[(.int .i64,.nil),(.sl 3 [.int .i64],.ro)])],[]⟩)]
def Aby:G5:=fun i st=>cond (Nat.beq i 4) (lam Axe 5000000 Axf M7 st) <| cond (Nat.beq i 11) (lam As0 12000000 As1 I7 st) <| .fail
theorem Ba2 (cx:Cx) (hp:cx.pin.length<=0):Ee Tryz.prog cx Tryz.f281.ntmps Aby (Bd Tryz.f281 0):=Fp Asz hp (Ds (by kernel_rfl:B5 (Bd Tryz.f281 0)=[]) trivial) (by kernel_rfl) (fun d=>(by kernel_rfl:bod (D7 Abx) 0 Tryz.f281.ntmps Aby (Bd Tryz.f281 0) Axe 5000000 Axf d=M7 d))
theorem A9k (cx:Cx) (hp:cx.pin.length<=0):Ee Tryz.prog cx Tryz.f281.ntmps Aby (Bd Tryz.f281 1):=Fp Asz hp (Ds (by kernel_rfl:B5 (Bd Tryz.f281 1)=[]) trivial) (by kernel_rfl) (fun d=>(by kernel_rfl:bod (D7 Abx) 0 Tryz.f281.ntmps Aby (Bd Tryz.f281 1) As0 12000000 As1 d=I7 d))
theorem A16:Fq 281 Asy:=Oy Asz Tryz.func281 (by kernel_rfl) (by kernel_rfl) (fun cx b hp hb=>Ds (by kernel_rfl:B5 (Tryz.f281.body.getD .skip)=[Bd Tryz.f281 0,Bd Tryz.f281 1]) ⟨Ba2 cx hp,A9k cx hp,trivial⟩ b hb) (fun d=>(by kernel_rfl:Ig (D7 Abx) 0 Aby Tryz.f281 .plain (mkA [M5] d)=(Aho d.1).run fun r=>some ([rv g_1 r],[])))
def Ba3:Au:=As [Ox] (fun d=>(Azs d.1).val) (Fo g_1)
theorem Blj:Fq 255 Ba3:=mkF [Fz 51 Cy,Fz 281 Asy] ⟨Cp,A16,trivial⟩ Tryz.func255 0
def A17:Au:=As [Ik] (fun d=>(Anc d.1).val) (Fo g_1)
theorem Be9:Fq 212 A17:=mkF [Fz 51 Cy,Fz 255 Ba3,Fz 254 Aja] ⟨Cp,Blj,Asv,trivial⟩ Tryz.func212 0
def Ane:Au:=As [g_0,g_0] (fun d=>(A18 d.1 d.2.1).val) (Fo g_1)
theorem Axg:Fq 69 Ane:=mkF [] trivial Tryz.func69 0
def Mh:Au:=As [Fg] (fun d=>(Anf d.1).val) (Fo g_1)
theorem M8:Fq 52 Mh:=mkF [Fz 51 Cy] ⟨Cp,trivial⟩ Tryz.func52 0
def Aa0:Au:=As [I5] (fun d=>(Aa1 d.1).val) (Fo g_1)
def T6:Fns:=[Fz 52 Mh,Fz 51 Cy]
theorem Ajc:CfgOk Tryz.prog (D7 T6):=Gz Nm J3 (show Lp Tryz.prog T6 from⟨M8,Cp,trivial⟩)
def Arm:Sk:=⟨[(1,.box 1 0),(3,.v false [(.int .i64,.nil)])],[(1,[(.int .i64,.nil),(.int .i64,.nil),(.sl 188 h_4,.ro)])],[]⟩
def Arn:List (Ex×Sk):=[(.ret,⟨[(2,.v false [(.bool,.nil)])],[],[]⟩),((.exit 0),⟨[],[],[]⟩)]
def Alg:Sk:=⟨[(1,.box 1 0),(3,.v false [(.int .i64,.nil)]),(4,.box 4 0),(5,.v false [(.int .i64,.nil)])],[(1,[(.int .i64,.nil),(.int .i64,.nil),(.sl 188 h_4,.ro)]),(4,[(.int .i64,.nil),(.int .i64,.nil),(.sl 5 [.int .u8],.ro),(.int .i64,.nil)])],[]⟩
def Alh:List (Ex×Sk):=[(.ret,⟨[(2,.v false [(.bool,.nil)])],[],[]⟩),((.exit 2),⟨[(1,.box 1 0),(3,.v false [(.int .i64,.nil)])],[(1,[(.int .i64,.nil),(.int .i64,.nil),(.sl 188 h_4,.ro)])],[]⟩)]
def T7:G5:=fun i st=>cond (Nat.beq i 10) (lam Alg 11000000 Alh Im st) <| cond (Nat.beq i 4) (lam Arm 5000000 Arn Lz st) <| .fail
theorem A19 (cx:Cx) (hp:cx.pin.length<=0):Ee Tryz.prog cx Tryz.f213.ntmps T7 (Bd Tryz.f213 1):=Fp Ajc hp (Ds (by kernel_rfl:B5 (Bd Tryz.f213 1)=[]) trivial) (by kernel_rfl) (fun d=>(by kernel_rfl:bod (D7 T6) 0 Tryz.f213.ntmps T7 (Bd Tryz.f213 1) Alg 11000000 Alh d=Im d))
theorem A49 (cx:Cx) (hp:cx.pin.length<=0):Ee Tryz.prog cx Tryz.f213.ntmps T7 (Bd Tryz.f213 0):=Fp Ajc hp (Ds (by kernel_rfl:B5 (Bd Tryz.f213 0)=[Bd Tryz.f213 1]) ⟨A19 cx hp,trivial⟩) (by kernel_rfl) (fun d=>(by kernel_rfl:bod (D7 T6) 0 Tryz.f213.ntmps T7 (Bd Tryz.f213 0) Arm 5000000 Arn d=Lz d))
theorem Ae1:Fq 213 Aa0:=Oy Ajc Tryz.func213 (by kernel_rfl) (by kernel_rfl) (fun cx b hp hb=>Ds (by kernel_rfl:B5 (Tryz.f213.body.getD .skip)=[Bd Tryz.f213 0]) ⟨A49 cx hp,trivial⟩ b hb) (fun d=>(by kernel_rfl:Ig (D7 T6) 0 T7 Tryz.f213 .plain (mkA [I5] d)=(Aa1 d.1).run fun r=>some ([rv g_1 r],[])))
def Adn:Au:=As [Lc] (fun d=>(Ang d.1).val) (Fo g_1)
theorem Ajd:Fq 151 Adn:=mkF [Fz 51 Cy,Fz 211 Arl,Fz 88 Q9,Fz 212 A17,Fz 69 Ane,Fz 213 Aa0] ⟨Cp,A48,Ra,Be9,Axg,Ae1,trivial⟩ Tryz.func151 0
def Anh:Au:=As [g_9,g_0] (fun d=>(Ani d.1 d.2.1).val) (Fo g_3)
theorem Axh:Fq 63 Anh:=Df [Fz 69 Ane] ⟨Axg,trivial⟩ ⟨[(1,.v false [(.sl 5 [.int .u8],.ro)]),(2,.box 2 0),(5,.v false [(.int .i64,.nil)])],[(2,[(.int .i64,.nil),(.sl 88 Eb,.ro)])],[]⟩ 3000000 [(.ret,⟨[(4,.v false [(.int .i64,.nil)])],[],[]⟩),((.exit 0),⟨[],[],[]⟩)] 2 Rb Tryz.func63 0
def As2:Au:=As [g_9] (fun d=>(As3 d.1).val) (Fo g_1)
theorem A2a:Fq 76 As2:=Df [Fz 51 Cy,Fz 152 Azq,Fz 151 Adn,Fz 63 Anh] ⟨Cp,A7f,Ajd,Axh,trivial⟩ ⟨[(1,.box 1 0),(3,.v false [(.int .i64,.nil)])],[(1,[(.int .i64,.nil),(.sl 88 Eb,.ro)])],[]⟩ 5000000 [(.ret,⟨[(2,.v false [(.bool,.nil)])],[],[]⟩),((.exit 0),⟨[],[],[]⟩)] 4 T8 Tryz.func76 0
def Pq:Au:=As [Qq] (fun d=>(U5 d.1).val) (Fo g_1)
def Pr:Fns:=[Fz 52 Mh,Fz 51 Cy]
theorem Acp:CfgOk Tryz.prog (D7 Pr):=Gz Nm J3 (show Lp Tryz.prog Pr from⟨M8,Cp,trivial⟩)
def Ahp:Sk:=⟨[(0,.v false [(.sl 53 h_2,.ro)]),(3,.v false [(.int .i64,.nil)])],[],[]⟩
def Ahq:List (Ex×Sk):=[(.ret,⟨[(2,.v false [(.bool,.nil)])],[],[]⟩),((.exit 0),⟨[],[],[]⟩)]
def Ahr:Sk:=⟨[(0,.v false [(.sl 53 h_2,.ro)]),(3,.v false [(.int .i64,.nil)]),(4,.v false [(.int .i64,.nil)])],[],[]⟩
def Ahs:List (Ex×Sk):=[(.ret,⟨[(2,.v false [(.bool,.nil)])],[],[]⟩),((.exit 2),⟨[(0,.v false [(.sl 53 h_2,.ro)]),(3,.v false [(.int .i64,.nil)])],[],[]⟩)]
def Ps:G5:=fun i st=>cond (Nat.beq i 9) (lam Ahr 10000000 Ahs H1 st) <| cond (Nat.beq i 4) (lam Ahp 5000000 Ahq Jn st) <| .fail
theorem Azt (cx:Cx) (hp:cx.pin.length<=0):Ee Tryz.prog cx Tryz.f77.ntmps Ps (Bd Tryz.f77 1):=Fp Acp hp (Ds (by kernel_rfl:B5 (Bd Tryz.f77 1)=[]) trivial) (by kernel_rfl) (fun d=>(by kernel_rfl:bod (D7 Pr) 0 Tryz.f77.ntmps Ps (Bd Tryz.f77 1) Ahr 10000000 Ahs d=H1 d))
theorem Azu (cx:Cx) (hp:cx.pin.length<=0):Ee Tryz.prog cx Tryz.f77.ntmps Ps (Bd Tryz.f77 0):=Fp Acp hp (Ds (by kernel_rfl:B5 (Bd Tryz.f77 0)=[Bd Tryz.f77 1]) ⟨Azt cx hp,trivial⟩) (by kernel_rfl) (fun d=>(by kernel_rfl:bod (D7 Pr) 0 Tryz.f77.ntmps Ps (Bd Tryz.f77 0) Ahp 5000000 Ahq d=Jn d))
theorem Sy:Fq 77 Pq:=Oy Acp Tryz.func77 (by kernel_rfl) (by kernel_rfl) (fun cx b hp hb=>Ds (by kernel_rfl:B5 (Tryz.f77.body.getD .skip)=[Bd Tryz.f77 0]) ⟨Azu cx hp,trivial⟩ b hb) (fun d=>(by kernel_rfl:Ig (D7 Pr) 0 Ps Tryz.f77 .plain (mkA [Qq] d)=(U5 d.1).run fun r=>some ([rv g_1 r],[])))
def Abz:Au:=As [g_0] (fun d=>(As4 d.1).val) (Fo g_1)
theorem Ado:Fq 78 Abz:=mkF [Fz 51 Cy] ⟨Cp,trivial⟩ Tryz.func78 0
def As5:Au:=As [Lu] (fun d=>(Ws d.1).val) (Fo g_1)
def Rc:Fns:=[Fz 51 Cy,Fz 74 Asu,Fz 75 Am5,Fz 76 As2,Fz 77 Pq,Fz 78 Abz]
theorem Ae2:CfgOk Tryz.prog (D7 Rc):=Gz Nm J3 (show Lp Tryz.prog Rc from⟨Cp,A14,Axb,A2a,Sy,Ado,trivial⟩)
def Ali:Sk:=⟨[(1,.box 1 0),(4,.v false [(.int .i64,.nil)])],[(1,[(.sl 22 [.sl 5 [.int .u8]],.ro),(.sl 5 [.int .u8],.ro),(.sl 5 [.int .u8],.ro),(.int .i64,.nil),(.int .i64,.nil),(.sl 88 Eb,.ro),(.sl 53 h_2,.ro)])],[]⟩
def Alj:List (Ex×Sk):=[(.ret,⟨[(2,.v false [(.bool,.nil)])],[],[]⟩),((.exit 2),⟨[],[],[]⟩)]
def Alk:Sk:=⟨[(1,.box 1 0),(3,.v false [(.int .i64,.nil)])],[(1,[(.sl 22 [.sl 5 [.int .u8]],.ro),(.sl 5 [.int .u8],.ro),(.sl 5 [.int .u8],.ro),(.int .i64,.nil),(.int .i64,.nil),(.sl 88 Eb,.ro),(.sl 53 h_2,.ro)])],[]⟩
def All:List (Ex×Sk):=[(.ret,⟨[(2,.v false [(.bool,.nil)])],[],[]⟩),((.exit 0),⟨[(1,.box 1 0)],[(1,[(.sl 22 [.sl 5 [.int .u8]],.ro),(.sl 5 [.int .u8],.ro),(.sl 5 [.int .u8],.ro),(.int .i64,.nil),(.int .i64,.nil),(.sl 88 Eb,.ro),(.sl 53 h_2,.ro)])],[]⟩)]
def Rd:G5:=fun i st=>cond (Nat.beq i 4) (lam Alk 5000000 All Ku st) <| cond (Nat.beq i 9) (lam Ali 10000000 Alj Kv st) <| .fail
theorem A2b (cx:Cx) (hp:cx.pin.length<=0):Ee Tryz.prog cx Tryz.f19.ntmps Rd (Bd Tryz.f19 0):=Fp Ae2 hp (Ds (by kernel_rfl:B5 (Bd Tryz.f19 0)=[]) trivial) (by kernel_rfl) (fun d=>(by kernel_rfl:bod (D7 Rc) 0 Tryz.f19.ntmps Rd (Bd Tryz.f19 0) Alk 5000000 All d=Ku d))
theorem A2c (cx:Cx) (hp:cx.pin.length<=0):Ee Tryz.prog cx Tryz.f19.ntmps Rd (Bd Tryz.f19 1):=Fp Ae2 hp (Ds (by kernel_rfl:B5 (Bd Tryz.f19 1)=[]) trivial) (by kernel_rfl) (fun d=>(by kernel_rfl:bod (D7 Rc) 0 Tryz.f19.ntmps Rd (Bd Tryz.f19 1) Ali 10000000 Alj d=Kv d))
theorem A9l:Fq 19 As5:=Oy Ae2 Tryz.func19 (by kernel_rfl) (by kernel_rfl) (fun cx b hp hb=>Ds (by kernel_rfl:B5 (Tryz.f19.body.getD .skip)=[Bd Tryz.f19 0,Bd Tryz.f19 1]) ⟨A2b cx hp,A2c cx hp,trivial⟩ b hb) (fun d=>(by kernel_rfl:Ig (D7 Rc) 0 Rd Tryz.f19 .plain (mkA [Lu] d)=(Ws d.1).run fun r=>some ([rv g_1 r],[])))
def Aro:Au:=As [g_4,g_0,g_3] (fun d=>(U6 d.1 d.2.1 d.2.2.1).val) (Fo Lu)
theorem A5a:Fq 82 Aro:=Df [Fz 56 Ba1,Fz 167 A13,Fz 168 Anb,Fz 19 As5] ⟨Bli,Be8,Axd,A9l,trivial⟩ ⟨[(0,.v false [(.sl 22 [.sl 5 [.int .u8]],.ro)]),(6,.box 6 0),(9,.box 9 0),(10,.v false [(.int .i64,.nil)])],[(6,[(.sl 22 [.sl 5 [.int .u8]],(.own 5000000)),(.sl 5 [.int .u8],(.own 5000001)),(.sl 5 [.int .u8],(.own 5000002)),(.int .i64,.nil),(.int .i64,.nil),(.sl 88 Eb,(.own 5000003)),(.sl 53 h_2,(.own 5000004))]),(9,[(.sl 22 [.sl 5 [.int .u8]],(.own 5000005)),(.sl 5 [.int .u8],(.own 5000006)),(.sl 5 [.int .u8],(.own 5000007)),(.int .i64,.nil),(.int .i64,.nil),(.sl 88 Eb,(.own 5000008)),(.sl 53 h_2,(.own 5000009))])],[5000000,5000001,5000002,5000003,5000004,5000005,5000006,5000007,5000008,5000009]⟩ 5000000 [((.exit 0),⟨[(6,.box 6 0),(9,.box 9 0)],[(6,[(.sl 22 [.sl 5 [.int .u8]],(.own 5000000)),(.sl 5 [.int .u8],(.own 5000001)),(.sl 5 [.int .u8],(.own 5000002)),(.int .i64,.nil),(.int .i64,.nil),(.sl 88 Eb,(.own 5000003)),(.sl 53 h_2,(.own 5000004))]),(9,[(.sl 22 [.sl 5 [.int .u8]],(.own 5000005)),(.sl 5 [.int .u8],(.own 5000006)),(.sl 5 [.int .u8],(.own 5000007)),(.int .i64,.nil),(.int .i64,.nil),(.sl 88 Eb,(.own 5000008)),(.sl 53 h_2,(.own 5000009))])],[5000000,5000001,5000002,5000003,5000004,5000005,5000006,5000007,5000008,5000009]⟩)] 4 Jo Tryz.func82 0
def Arp:Au:=As [g_2] (fun d=>(U7 d.1).val) fun r=>([rv F9 r.1],[rv g_2 r.2])
theorem A5b:Fn Tryz.prog 201 (.box [3] true true) Arp:=mkF [(84,(.box [3] true true),Iw),(85,(.box [3] true true),D9)] ⟨I6,D5,trivial⟩ Tryz.func201 1
def Adp:Au:=As [g_3] (fun d=>(Anj d.1).val) (Fo g_1)
theorem Aje:Fq 71 Adp:=mkF [Fz 51 Cy] ⟨Cp,trivial⟩ Tryz.func71 0
def Ank:Au:=As [g_3,g_3] (fun d=>(Anl d.1 d.2.1).val) (Fo g_1)
theorem Axi:Fq 205 Ank:=mkF [] trivial Tryz.func205 0
def T9:Au:=As [F9] (fun d=>(Ajf d.1).val) (Fo g_1)
theorem Wt:Fq 144 T9:=mkF [Fz 71 Adp,Fz 51 Cy,Fz 205 Ank] ⟨Aje,Cp,Axi,trivial⟩ Tryz.func144 0
def Ajg:Au:=As [g_0,g_0] (fun d=>(Aa2 d.1 d.2.1).val) (Fo g_0)
theorem As6:Fq 155 Ajg:=mkF [Fz 204 Zr] ⟨Abw,trivial⟩ Tryz.func155 0
def Arq:Au:=As [g_0] (fun d=>(Acq d.1).val) (Fo g_0)
theorem A5c:Fq 67 Arq:=mkF [Fz 78 Abz,Fz 155 Ajg,Fz 154 Sx] ⟨Ado,As6,T5,trivial⟩ Tryz.func67 0
def Arr:Au:=As [g_3,g_0,g_0,g_3,g_0] (fun d=>(Acr d.1 d.2.1 d.2.2.1 d.2.2.2.1 d.2.2.2.2.1).val) (Fo g_0)
theorem A5d:Fq 68 Arr:=mkF [Fz 51 Cy,Fz 143 Ld] ⟨Cp,Km,trivial⟩ Tryz.func68 0
def Awi:Au:=As [g_0,g_0] (fun d=>(A5e d.1 d.2.1).val) (Fo g_0)
theorem Azv:Fq 141 Awi:=mkF [Fz 204 Zr] ⟨Abw,trivial⟩ Tryz.func141 0
def A7g:Au:=As [g_0,g_3,g_0,g_0,g_3,g_0] (fun d=>(As7 d.1 d.2.1 d.2.2.1 d.2.2.2.1 d.2.2.2.2.1 d.2.2.2.2.2.1).val) (Fo g_0)
theorem Biq:Fq 147 A7g:=mkF [Fz 67 Arq,Fz 68 Arr,Fz 141 Awi] ⟨A5c,A5d,Azv,trivial⟩ Tryz.func147 0
def Anm:Au:=As [F9] (fun d=>(Ann d.1).val) (Fo F9)
theorem Axj:Fq 170 Anm:=mkF [] trivial Tryz.func170 0
def Ae3:Au:=As [g_0,g_3,F9] (fun d=>(Re d.1 d.2.1 d.2.2.1).val) fun r=>([rv F9 r.1,rv g_1 r.2],[])
theorem Ars:Fq 91 Ae3:=mkF [Fz 144 T9,Fz 147 A7g,Fz 170 Anm] ⟨Wt,Biq,Axj,trivial⟩ Tryz.func91 0
def I8:Au:=As [g_2,g_6] (fun d=>(Aht d.1 d.2.1).val) fun r=>([rv g_3 r.1],[rv g_2 r.2])
theorem Ix:Fn Tryz.prog 89 (.box [3] true true) I8:=mkF [(85,(.box [3] true true),D9)] ⟨D5,trivial⟩ Tryz.func89 1
def Axk:Au:=As [g_0,g_0,g_0] (fun d=>(Ajh d.1 d.2.1 d.2.2.1).val) (Fo g_0)
theorem Ba4:Fq 209 Axk:=mkF [Fz 78 Abz,Fz 155 Ajg] ⟨Ado,As6,trivial⟩ Tryz.func209 0
def As8:Au:=As [g_0] (fun d=>(Ae4 d.1).val) (Fo g_0)
theorem A9m:Fq 208 As8:=mkF [Fz 154 Sx] ⟨T5,trivial⟩ Tryz.func208 0
def A7h:Au:=As [g_0,g_3] (fun d=>(As9 d.1 d.2.1).val) (Fo g_0)
theorem Bir:Fq 210 A7h:=Df [Fz 51 Cy,Fz 154 Sx] ⟨Cp,T5,trivial⟩ ⟨[(1,.v false [(.int .i64,.nil)]),(5,.v false [(.sl 5 [.int .u8],(.own 6000000))]),(6,.v false [(.int .i64,.nil)])],[],[6000000]⟩ 6000000 [((.exit 0),⟨[(5,.v false [(.sl 5 [.int .u8],(.own 6000000))])],[],[6000000]⟩)] 5 Qd Tryz.func210 0
def Ata:Au:=As [g_0,g_0,g_0,g_3] (fun d=>(Ae5 d.1 d.2.1 d.2.2.1 d.2.2.2.1).val) (Fo g_0)
theorem A9n:Fq 149 Ata:=mkF [Fz 209 Axk,Fz 208 As8,Fz 210 A7h] ⟨Ba4,A9m,Bir,trivial⟩ Tryz.func149 0
def Ano:Au:=As [] (fun d=>(Anp).val) (Fo M5)
theorem Axl:Fq 253 Ano:=Df [] trivial ⟨[(0,.box 0 0),(1,.box 1 0),(2,.v false [(.int .i64,.nil)])],[(0,[(.int .i64,.nil),(.sl 3 [.int .i64],(.own 4000000))]),(1,[(.int .i64,.nil),(.sl 3 [.int .i64],(.own 4000001))])],[4000000,4000001]⟩ 4000000 [((.exit 0),⟨[(0,.box 0 0),(1,.box 1 0)],[(0,[(.int .i64,.nil),(.sl 3 [.int .i64],(.own 4000000))]),(1,[(.int .i64,.nil),(.sl 3 [.int .i64],(.own 4000001))])],[4000000,4000001]⟩)] 3 Nq Tryz.func253 0
def Ahu:Au:=As [g_3,g_0] (fun d=>(Ab0 d.1 d.2.1).val) (Fo Ox)
theorem Anq:Fq 207 Ahu:=mkF [Fz 51 Cy,Fz 253 Ano] ⟨Cp,Axl,trivial⟩ Tryz.func207 0
def Aji:Au:=As [g_3,g_0,g_0] (fun d=>(Ua d.1 d.2.1 d.2.2.1).val) (Fo Ik)
theorem Atb:Fq 148 Aji:=mkF [Fz 51 Cy,Fz 207 Ahu] ⟨Cp,Anq,trivial⟩ Tryz.func148 0
def Ae6:Au:=As [Fg] (fun d=>(Ae7 d.1).val) (Fo I5)
theorem Art:Fq 150 Ae6:=mkF [] trivial Tryz.func150 0
def Axm:Au:=As [g_0,g_3,Fg,F9] (fun d=>(Qe d.1 d.2.1 d.2.2.1 d.2.2.2.1).val) (Fo Lc)
theorem Ba5:Fq 64 Axm:=mkF [Fz 78 Abz,Fz 51 Cy,Fz 52 Mh,Fz 144 T9,Fz 149 Ata,Fz 148 Aji,Fz 150 Ae6] ⟨Ado,Cp,M8,Wt,A9n,Atb,Art,trivial⟩ Tryz.func64 0
def Ka:Au:=As [g_2,g_3] (fun d=>(Anr d.1 d.2.1).val) fun r=>([rv g_1 r.1],[rv g_2 r.2])
theorem Kn:Fn Tryz.prog 47 (.box [3] true true) Ka:=mkF [(85,(.box [3] true true),D9)] ⟨D5,trivial⟩ Tryz.func47 1
def A2d:Au:=As [g_2,g_3] (fun d=>(Ant d.1 d.2.1).val) fun r=>([rv g_6 r.1],[rv g_2 r.2])
theorem Bfa:Fn Tryz.prog 276 (.box [3] true true) A2d:=Df [(89,(.box [3] true true),I8),(85,(.box [3] true true),D9),(47,(.box [3] true true),Ka)] ⟨Ix,D5,Kn,trivial⟩ ⟨[(0,.box 0 0),(5,.v false [(.sl 3 [.int .i64],(.own 5000000))]),(6,.v false [(.int .i64,.nil)]),(7,.v false [(.int .i64,.nil)])],[(0,[(.sl 5 [.int .u8],(.pin 0)),(.int .i64,.nil),(.int .i64,.nil)])],[5000000]⟩ 5000000 [((.exit 0),⟨[(0,.box 0 0),(5,.v false [(.sl 3 [.int .i64],(.own 5000000))])],[(0,[(.sl 5 [.int .u8],(.pin 0)),(.int .i64,.nil),(.int .i64,.nil)])],[5000000]⟩)] 4 Wu Tryz.func276 1
def Anu:Au:=As [M5] (fun d=>(A2e d.1).val) (Fo M5)
theorem Axn:Fq 282 Anu:=mkF [] trivial Tryz.func282 0
def Axo:Au:=As [g_3] (fun d=>(Ajj d.1).val) (Fo g_3)
theorem Ba6:Fq 283 Axo:=mkF [] trivial Tryz.func283 0
def A2f:Au:=As [M5,g_3] (fun d=>(Anv d.1 d.2.1).val) (Fo g_1)
theorem Bfb:Fq 258 A2f:=mkF [Fz 281 Asy,Fz 51 Cy,Fz 283 Axo,Fz 284 Asw] ⟨A16,Cp,Ba6,A15,trivial⟩ Tryz.func258 0
def A2g:Au:=As [M5,g_3] (fun d=>(Anw d.1 d.2.1).val) fun r=>([rv M5 r.1,rv g_1 r.2],[])
theorem Bfc:Fq 260 A2g:=Df [Fz 282 Anu,Fz 258 A2f] ⟨Axn,Bfb,trivial⟩ ⟨[(1,.v false [(.int .i64,.nil)]),(2,.box 2 0),(4,.box 4 0),(6,.box 6 0),(7,.v false [(.int .i64,.nil)]),(8,.v false [(.int .i64,.nil)])],[(2,[(.int .i64,.nil),(.sl 3 [.int .i64],.ro)]),(4,[(.int .i64,.nil),(.sl 3 [.int .i64],(.own 7000000))]),(6,[(.int .i64,.nil),(.sl 3 [.int .i64],(.own 7000001))])],[7000000,7000001]⟩ 7000000 [((.exit 0),⟨[(1,.v false [(.int .i64,.nil)]),(2,.box 2 0),(4,.box 4 0),(6,.box 6 0)],[(2,[(.int .i64,.nil),(.sl 3 [.int .i64],.ro)]),(4,[(.int .i64,.nil),(.sl 3 [.int .i64],(.own 7000000))]),(6,[(.int .i64,.nil),(.sl 3 [.int .i64],(.own 7000001))])],[7000000,7000001]⟩)] 6 Nr Tryz.func260 0
def A7i:Au:=As [g_6] (fun d=>(Ahv d.1).val) (Fo M5)
theorem Bis:Fq 275 A7i:=Df [Fz 253 Ano,Fz 260 A2g] ⟨Axl,Bfc,trivial⟩ ⟨[(0,.v false [(.sl 3 [.int .i64],.ro)]),(2,.box 2 0),(3,.box 3 0),(4,.v false [(.int .i64,.nil)])],[(2,[(.int .i64,.nil),(.sl 3 [.int .i64],(.own 4000000))]),(3,[(.int .i64,.nil),(.sl 3 [.int .i64],(.own 4000001))])],[4000000,4000001]⟩ 4000000 [((.exit 0),⟨[(2,.box 2 0),(3,.box 3 0)],[(2,[(.int .i64,.nil),(.sl 3 [.int .i64],(.own 4000000))]),(3,[(.int .i64,.nil),(.sl 3 [.int .i64],(.own 4000001))])],[4000000,4000001]⟩)] 3 Ub Tryz.func275 0
def A2h:Au:=As [g_2] (fun d=>(Adq d.1).val) fun r=>([rv M5 r.1],[rv g_2 r.2])
theorem Bfd:Fn Tryz.prog 250 (.box [3] true true) A2h:=mkF [(276,(.box [3] true true),A2d),Fz 275 A7i] ⟨Bfa,Bis,trivial⟩ Tryz.func250 1
def Axp:Au:=As [g_2,g_3] (fun d=>(Aa3 d.1 d.2.1).val) fun r=>([rv Ik r.1],[rv g_2 r.2])
theorem Ba7:Fn Tryz.prog 202 (.box [3] true true) Axp:=mkF [(84,(.box [3] true true),Iw),Fz 148 Aji,(89,(.box [3] true true),I8),(47,(.box [3] true true),Ka),(250,(.box [3] true true),A2h),Fz 154 Sx,Fz 207 Ahu] ⟨I6,Atb,Ix,Kn,Bfd,T5,Anq,trivial⟩ Tryz.func202 1
def Ajk:Au:=As [Brx] (fun d=>(Ajl d.1).val) (Fo Brx)
theorem Atc:Fq 220 Ajk:=mkF [] trivial Tryz.func220 0
def Aa4:Au:=As [I5] (fun d=>(Ajm d.1).val) (Fo I5)
theorem Ae8:Fq 215 Aa4:=Df [Fz 220 Ajk] ⟨Atc,trivial⟩ ⟨[(1,.box 1 0),(2,.box 2 0),(3,.box 3 0),(4,.v false [(.int .i64,.nil)])],[(1,[(.int .i64,.nil),(.int .i64,.nil),(.sl 188 h_4,.ro)]),(2,[(.int .i64,.nil),(.int .i64,.nil),(.sl 188 h_4,(.own 4000000))]),(3,[(.int .i64,.nil),(.int .i64,.nil),(.sl 188 h_4,(.own 4000001))])],[4000000,4000001]⟩ 4000000 [((.exit 0),⟨[(2,.box 2 0),(3,.box 3 0)],[(2,[(.int .i64,.nil),(.int .i64,.nil),(.sl 188 h_4,(.own 4000000))]),(3,[(.int .i64,.nil),(.int .i64,.nil),(.sl 188 h_4,(.own 4000001))])],[4000000,4000001]⟩)] 3 L0 Tryz.func215 0
def Atd:Au:=As [I5,g_3] (fun d=>(Ae9 d.1 d.2.1).val) (Fo I5)
theorem A9o:Fq 222 Atd:=Df [Fz 213 Aa0,Fz 51 Cy,Fz 215 Aa4,Fz 220 Ajk] ⟨Ae1,Cp,Ae8,Atc,trivial⟩ ⟨[(1,.v false [(.int .i64,.nil)]),(2,.box 2 0),(4,.box 4 0),(5,.box 5 0),(6,.v false [(.int .i64,.nil)])],[(2,[(.int .i64,.nil),(.int .i64,.nil),(.sl 188 h_4,.ro)]),(4,[(.int .i64,.nil),(.int .i64,.nil),(.sl 188 h_4,(.own 6000000))]),(5,[(.int .i64,.nil),(.int .i64,.nil),(.sl 188 h_4,(.own 6000001))])],[6000000,6000001]⟩ 6000000 [((.exit 0),⟨[(4,.box 4 0),(5,.box 5 0)],[(4,[(.int .i64,.nil),(.int .i64,.nil),(.sl 188 h_4,(.own 6000000))]),(5,[(.int .i64,.nil),(.int .i64,.nil),(.sl 188 h_4,(.own 6000001))])],[6000000,6000001]⟩)] 5 Kw Tryz.func222 0
def A7j:Au:=As [I5,g_3,Fg,g_0] (fun d=>(Ate d.1 d.2.1 d.2.2.1 d.2.2.2.1).val) fun r=>([rv I5 r.1,rv g_1 r.2],[])
theorem Bit:Fq 163 A7j:=Df [Fz 213 Aa0,Fz 51 Cy,Fz 52 Mh,Fz 215 Aa4,Fz 222 Atd] ⟨Ae1,Cp,M8,Ae8,A9o,trivial⟩ ⟨[(1,.v false [(.int .i64,.nil)]),(3,.v false [(.sl 5 [.int .u8],.ro)]),(4,.box 4 0),(6,.box 6 0),(8,.box 8 0),(10,.box 10 0),(11,.v false [(.int .i64,.nil)])],[(4,[(.int .i64,.nil),(.int .i64,.nil),(.sl 188 h_4,.ro)]),(6,[(.int .i64,.nil),(.int .i64,.nil)]),(8,[(.int .i64,.nil),(.int .i64,.nil),(.sl 188 h_4,(.own 6000000))]),(10,[(.int .i64,.nil),(.int .i64,.nil),(.sl 188 h_4,(.own 6000001))])],[6000000,6000001]⟩ 6000000 [(.ret,⟨[(8,.box 8 0),(9,.v false [(.bool,.nil)])],[(8,[(.int .i64,.nil),(.int .i64,.nil),(.sl 188 h_4,(.own 6000000))])],[6000000]⟩),((.exit 0),⟨[(1,.v false [(.int .i64,.nil)]),(3,.v false [(.sl 5 [.int .u8],.ro)]),(4,.box 4 0),(6,.box 6 0),(8,.box 8 0),(10,.box 10 0)],[(4,[(.int .i64,.nil),(.int .i64,.nil),(.sl 188 h_4,.ro)]),(6,[(.int .i64,.nil),(.int .i64,.nil)]),(8,[(.int .i64,.nil),(.int .i64,.nil),(.sl 188 h_4,(.own 6000000))]),(10,[(.int .i64,.nil),(.int .i64,.nil),(.sl 188 h_4,(.own 6000001))])],[6000000,6000001]⟩)] 5 Qf Tryz.func163 0
def Axq:Au:=As [g_2] (fun d=>(Aa5 d.1).val) fun r=>([rv I5 r.1],[rv g_2 r.2])
theorem Ba8:Fn Tryz.prog 203 (.box [3] true true) Axq:=Df [(85,(.box [3] true true),D9),Fz 88 Q9,Fz 150 Ae6,(84,(.box [3] true true),Iw),Fz 163 A7j] ⟨D5,Ra,Art,I6,Bit,trivial⟩ ⟨[(0,.box 0 0),(2,.box 2 0),(3,.box 3 0),(4,.v false [(.int .i64,.nil)]),(5,.v false [(.int .i64,.nil)])],[(0,[(.sl 5 [.int .u8],(.pin 0)),(.int .i64,.nil),(.int .i64,.nil)]),(2,[(.int .i64,.nil),(.int .i64,.nil),(.sl 188 h_4,(.own 5000000))]),(3,[(.int .i64,.nil),(.int .i64,.nil),(.sl 188 h_4,(.own 5000001))])],[5000000,5000001]⟩ 5000000 [((.exit 0),⟨[(0,.box 0 0),(2,.box 2 0),(3,.box 3 0)],[(0,[(.sl 5 [.int .u8],(.pin 0)),(.int .i64,.nil),(.int .i64,.nil)]),(2,[(.int .i64,.nil),(.int .i64,.nil),(.sl 188 h_4,(.own 5000000))]),(3,[(.int .i64,.nil),(.int .i64,.nil),(.sl 188 h_4,(.own 5000001))])],[5000000,5000001]⟩)] 4 U8 Tryz.func203 1
def Axr:Au:=As [g_2] (fun d=>(Aa6 d.1).val) fun r=>([rv Lc r.1],[rv g_2 r.2])
theorem Ba9:Fn Tryz.prog 132 (.box [3] true false) Axr:=mkF [(84,(.box [3] true true),Iw),(85,(.box [3] true true),D9),(201,(.box [3] true true),Arp),Fz 91 Ae3,(89,(.box [3] true true),I8),Fz 88 Q9,Fz 64 Axm,(47,(.box [3] true true),Ka),(202,(.box [3] true true),Axp),(203,(.box [3] true true),Axq)] ⟨I6,D5,A5b,Ars,Ix,Ra,Ba5,Kn,Ba7,Ba8,trivial⟩ Tryz.func132 1
def Anx:Au:=As [Ox] (fun d=>(Any d.1).val) (Fo Ox)
theorem Axs:Fq 256 Anx:=mkF [Fz 282 Anu] ⟨Axn,trivial⟩ Tryz.func256 0
def A7k:Au:=As [Ox,g_1] (fun d=>(Atf d.1 d.2.1).val) (Fo Ox)
theorem Biu:Fq 257 A7k:=mkF [Fz 256 Anx] ⟨Axs,trivial⟩ Tryz.func257 0
def Axt:Au:=As [Ik] (fun d=>(Ajn d.1).val) (Fo Ik)
theorem Bba:Fq 214 Axt:=mkF [Fz 256 Anx,Fz 257 A7k] ⟨Axs,Biu,trivial⟩ Tryz.func214 0
def Aa7:Au:=As [Lc] (fun d=>(Ajo d.1).val) (Fo Lc)
theorem Afa:Fq 153 Aa7:=mkF [Fz 214 Axt,Fz 215 Aa4] ⟨Bba,Ae8,trivial⟩ Tryz.func153 0
def Axu:Au:=As [g_9] (fun d=>(Ajp d.1).val) (Fo g_9)
theorem Bbb:Fq 135 Axu:=Df [Fz 153 Aa7] ⟨Afa,trivial⟩ ⟨[(1,.box 1 0),(2,.box 2 0),(3,.box 3 0),(4,.v false [(.int .i64,.nil)])],[(1,[(.int .i64,.nil),(.sl 88 Eb,.ro)]),(2,[(.int .i64,.nil),(.sl 88 Eb,(.own 4000000))]),(3,[(.int .i64,.nil),(.sl 88 Eb,(.own 4000001))])],[4000000,4000001]⟩ 4000000 [((.exit 0),⟨[(2,.box 2 0),(3,.box 3 0)],[(2,[(.int .i64,.nil),(.sl 88 Eb,(.own 4000000))]),(3,[(.int .i64,.nil),(.sl 88 Eb,(.own 4000001))])],[4000000,4000001]⟩)] 3 L3 Tryz.func135 0
def Ajq:Au:=As [g_9,Lc] (fun d=>(Ajr d.1 d.2.1).val) fun r=>([rv g_9 r.1,rv g_3 r.2],[])
theorem Atg:Fq 65 Ajq:=mkF [Fz 135 Axu,Fz 76 As2,Fz 151 Adn,Fz 63 Anh,Fz 152 Azq,Fz 153 Aa7] ⟨Bbb,A2a,Ajd,Axh,A7f,Afa,trivial⟩ Tryz.func65 0
def Bbc:Au:=As [Lc] (fun d=>(Anz d.1).val) (Fo Lc)
theorem Blk:Fq 131 Bbc:=mkF [Fz 151 Adn,Fz 153 Aa7] ⟨Ajd,Afa,trivial⟩ Tryz.func131 0
def Axv:Au:=As [g_2] (fun d=>(Aa8 d.1).val) fun r=>([rv g_9 r.1],[rv g_2 r.2])
theorem Bbd:Fn Tryz.prog 86 (.box [3] true true) Axv:=Df [(85,(.box [3] true true),D9),Fz 168 Anb,(132,(.box [3] true false),Axr),Fz 65 Ajq,(47,(.box [3] true true),Ka),Fz 131 Bbc] ⟨D5,Axd,Ba9,Atg,Kn,Blk,trivial⟩ ⟨[(0,.box 0 0),(2,.box 2 0),(3,.box 3 0),(4,.v false [(.int .i64,.nil)])],[(0,[(.sl 5 [.int .u8],(.pin 0)),(.int .i64,.nil),(.int .i64,.nil)]),(2,[(.int .i64,.nil),(.sl 88 Eb,(.own 4000000))]),(3,[(.int .i64,.nil),(.sl 88 Eb,(.own 4000001))])],[4000000,4000001]⟩ 4000000 [((.exit 0),⟨[(0,.box 0 0),(2,.box 2 0),(3,.box 3 0)],[(0,[(.sl 5 [.int .u8],(.pin 0)),(.int .i64,.nil),(.int .i64,.nil)]),(2,[(.int .i64,.nil),(.sl 88 Eb,(.own 4000000))]),(3,[(.int .i64,.nil),(.sl 88 Eb,(.own 4000001))])],[4000000,4000001]⟩)] 3 L4 Tryz.func86 1
def Ahw:Au:=As [Qq,Fg] (fun d=>(Ath d.1 d.2.1).val) (Fo g_3)
theorem An0:Fq 136 Ahw:=Df [] trivial ⟨[(0,.v false [(.sl 53 h_2,.ro)]),(3,.box 3 0),(5,.v false [(.int .i64,.nil)])],[(3,[(.int .i64,.nil),(.int .i64,.nil)])],[]⟩ 3000000 [(.ret,⟨[(4,.v false [(.int .i64,.nil)])],[],[]⟩),((.exit 0),⟨[],[],[]⟩)] 2 Uc Tryz.func136 0
def Bbe:Au:=As [Qq,Fg,g_3] (fun d=>(An1 d.1 d.2.1 d.2.2.1).val) (Fo Qq)
theorem Bll:Fq 53 Bbe:=mkF [Fz 77 Pq,Fz 52 Mh,Fz 51 Cy,Fz 136 Ahw] ⟨Sy,M8,Cp,An0,trivial⟩ Tryz.func53 0
def Axw:Au:=As [Qq,Fg] (fun d=>(Ud d.1 d.2.1).val) (Fo g_3)
theorem Bbf:Fq 139 Axw:=mkF [Fz 136 Ahw,Fz 77 Pq] ⟨An0,Sy,trivial⟩ Tryz.func139 0
def A7l:Au:=As [Qq,Fg,g_3] (fun d=>(Ahx d.1 d.2.1 d.2.2.1).val) fun r=>([rv Qq r.1,rv g_1 r.2],[])
theorem Biv:Fq 165 A7l:=mkF [Fz 136 Ahw,Fz 77 Pq,Fz 139 Axw,Fz 51 Cy] ⟨An0,Sy,Bbf,Cp,trivial⟩ Tryz.func165 0
def Axx:Au:=As [g_2,g_3] (fun d=>(Aa9 d.1 d.2.1).val) fun r=>([rv Qq r.1],[rv g_2 r.2])
theorem Bbg:Fn Tryz.prog 87 (.box [3] true true) Axx:=Df [(85,(.box [3] true true),D9),Fz 88 Q9,(89,(.box [3] true true),I8),Fz 53 Bbe,Fz 165 A7l] ⟨D5,Ra,Ix,Bll,Biv,trivial⟩ ⟨[(0,.box 0 0),(5,.v false [(.sl 53 h_2,(.own 4000000))]),(6,.v false [(.int .i64,.nil)])],[(0,[(.sl 5 [.int .u8],(.pin 0)),(.int .i64,.nil),(.int .i64,.nil)])],[4000000]⟩ 4000000 [((.exit 0),⟨[(0,.box 0 0),(5,.v false [(.sl 53 h_2,(.own 4000000))])],[(0,[(.sl 5 [.int .u8],(.pin 0)),(.int .i64,.nil),(.int .i64,.nil)])],[4000000]⟩)] 3 L5 Tryz.func87 1
def Axy:Au:=As [g_2] (fun d=>(Aba d.1).val) fun r=>([rv Lu r.1],[rv g_2 r.2])
theorem Bbh:Fn Tryz.prog 23 (.box [3] true true) Axy:=Df [(83,(.box [3] true true),Aw9),(84,(.box [3] true true),Iw),(85,(.box [3] true true),D9),Fz 82 Aro,(86,(.box [3] true true),Axv),Fz 65 Ajq,(87,(.box [3] true true),Axx)] ⟨Bav,I6,D5,A5a,Bbd,Atg,Bbg,trivial⟩ ⟨[(0,.box 0 0),(2,.box 2 0),(3,.box 3 0),(4,.box 4 0),(5,.v false [(.int .i64,.nil)])],[(0,[(.sl 5 [.int .u8],(.pin 0)),(.int .i64,.nil),(.int .i64,.nil)]),(2,[(.sl 22 [.sl 5 [.int .u8]],(.own 5000000)),(.sl 5 [.int .u8],(.own 5000001)),(.sl 5 [.int .u8],(.own 5000002)),(.int .i64,.nil),(.int .i64,.nil),(.sl 88 Eb,(.own 5000003)),(.sl 53 h_2,(.own 5000004))]),(3,[(.sl 22 [.sl 5 [.int .u8]],(.own 5000005)),(.sl 5 [.int .u8],(.own 5000006)),(.sl 5 [.int .u8],(.own 5000007)),(.int .i64,.nil),(.int .i64,.nil),(.sl 88 Eb,(.own 5000008)),(.sl 53 h_2,(.own 5000009))]),(4,[(.int .i64,.nil),(.sl 88 Eb,(.own 5000010))])],[5000000,5000001,5000002,5000003,5000004,5000005,5000006,5000007,5000008,5000009,5000010]⟩ 5000000 [((.exit 0),⟨[(0,.box 0 0),(2,.box 2 0),(3,.box 3 0)],[(0,[(.sl 5 [.int .u8],(.pin 0)),(.int .i64,.nil),(.int .i64,.nil)]),(2,[(.sl 22 [.sl 5 [.int .u8]],(.own 5000000)),(.sl 5 [.int .u8],(.own 5000001)),(.sl 5 [.int .u8],(.own 5000002)),(.int .i64,.nil),(.int .i64,.nil),(.sl 88 Eb,(.own 5000003)),(.sl 53 h_2,(.own 5000004))]),(3,[(.sl 22 [.sl 5 [.int .u8]],(.own 5000005)),(.sl 5 [.int .u8],(.own 5000006)),(.sl 5 [.int .u8],(.own 5000007)),(.int .i64,.nil),(.int .i64,.nil),(.sl 88 Eb,(.own 5000008)),(.sl 53 h_2,(.own 5000009))])],[5000000,5000001,5000002,5000003,5000004,5000005,5000006,5000007,5000008,5000009]⟩)] 4 L6 Tryz.func23 1
def Ati:Au:=As [F9] (fun d=>(Afb d.1).val) (Fo g_0)
theorem A9p:Fq 90 Ati:=Df [Fz 144 T9,Fz 143 Ld] ⟨Wt,Km,trivial⟩ ⟨[(3,.v false [(.sl 5 [.int .u8],(.own 11000000))]),(4,.v false [(.int .i64,.nil)])],[],[11000000]⟩ 11000000 [((.exit 1),⟨[(3,.v false [(.sl 5 [.int .u8],(.own 11000000))])],[],[11000000]⟩)] 10 Jp Tryz.func90 0
def Axz:Au:=As [g_0,Fg] (fun d=>(Ajs d.1 d.2.1).val) (Fo g_0)
theorem Bbi:Fq 142 Axz:=mkF [Fz 52 Mh,Fz 143 Ld] ⟨M8,Km,trivial⟩ Tryz.func142 0
def Atj:Au:=As [Fg,g_3,g_0,g_0,g_3] (fun d=>(Wv d.1 d.2.1 d.2.2.1 d.2.2.2.1 d.2.2.2.2.1).val) (Fo g_0)
theorem A9q:Fq 60 Atj:=mkF [Fz 52 Mh,Fz 51 Cy,Fz 142 Axz,Fz 143 Ld] ⟨M8,Cp,Bbi,Km,trivial⟩ Tryz.func60 0
def Bbj:Au:=As [g_8,Fg,g_3,g_0,g_0,g_3] (fun d=>(An2 d.1 d.2.1 d.2.2.1 d.2.2.2.1 d.2.2.2.2.1 d.2.2.2.2.2.1).val) (Fo g_0)
theorem Blm:Fq 57 Bbj:=mkF [Fz 60 Atj,Fz 74 Asu,Fz 141 Awi] ⟨A9q,A14,Azv,trivial⟩ Tryz.func57 0
def An3:Au:=As [g_2,g_0] (fun d=>(An4 d.1 d.2.1).val) fun r=>([rv g_0 r.1],[rv g_2 r.2])
theorem Ax0:Fn Tryz.prog 92 (.box [3] true true) An3:=mkF [(85,(.box [3] true true),D9),(169,(.box [3] true true),Wn)] ⟨D5,Aay,trivial⟩ Tryz.func92 1
def A2i:Au:=As [g_2] (fun d=>(An5 d.1).val) fun r=>([rv g_3 r.1,rv g_0 r.2.1],[rv g_2 r.2.2])
theorem Bfe:Fn Tryz.prog 224 (.box [3] true true) A2i:=mkF [(85,(.box [3] true true),D9),(84,(.box [3] true true),Iw),(89,(.box [3] true true),I8)] ⟨D5,I6,Ix,trivial⟩ Tryz.func224 1
def An6:Au:=As [g_3,g_0,g_3,g_3] (fun d=>(An7 d.1 d.2.1 d.2.2.1 d.2.2.2.1).val) (Fo g_0)
theorem Ax1:Fq 218 An6:=mkF [Fz 51 Cy,Fz 143 Ld] ⟨Cp,Km,trivial⟩ Tryz.func218 0
def Ax2:Au:=As [g_0,g_0,g_3] (fun d=>(Ajt d.1 d.2.1 d.2.2.1).val) (Fo g_0)
theorem Bbk:Fq 285 Ax2:=mkF [Fz 51 Cy,Fz 143 Ld,Fz 204 Zr] ⟨Cp,Km,Abw,trivial⟩ Tryz.func285 0
def A2j:Au:=As [g_0,g_0,g_3] (fun d=>(An8 d.1 d.2.1 d.2.2.1).val) (Fo g_0)
theorem Bff:Fq 261 A2j:=Df [Fz 51 Cy,Fz 285 Ax2] ⟨Cp,Bbk,trivial⟩ ⟨[(0,.v false [(.sl 5 [.int .u8],.ro)]),(1,.v false [(.sl 5 [.int .u8],.ro)]),(2,.v false [(.int .i64,.nil)]),(7,.v false [(.sl 5 [.int .u8],(.own 6000000))]),(8,.v false [(.int .i64,.nil)])],[],[6000000]⟩ 6000000 [((.exit 0),⟨[(2,.v false [(.int .i64,.nil)]),(7,.v false [(.sl 5 [.int .u8],(.own 6000000))])],[],[6000000]⟩)] 5 Ns Tryz.func261 0
def Bg7:Au:=As [g_0,g_0,g_0] (fun d=>(A5f d.1 d.2.1 d.2.2.1).val) (Fo g_0)
theorem Boh:Fq 226 Bg7:=Df [Fz 261 A2j] ⟨Bff,trivial⟩ ⟨[(2,.v false [(.sl 5 [.int .u8],.ro)]),(7,.v false [(.sl 5 [.int .u8],(.own 7000000))]),(8,.v false [(.sl 5 [.int .u8],(.own 7000001))]),(9,.v false [(.int .i64,.nil)])],[],[7000000,7000001]⟩ 7000000 [((.exit 0),⟨[(7,.v false [(.sl 5 [.int .u8],(.own 7000000))])],[],[7000000]⟩)] 6 V4 Tryz.func226 0
def Atk:Au:=As [g_3,F9] (fun d=>(Afc d.1 d.2.1).val) (Fo g_0)
theorem A9r:Fq 160 Atk:=mkF [Fz 51 Cy,Fz 144 T9,Fz 71 Adp,Fz 218 An6] ⟨Cp,Wt,Aje,Ax1,trivial⟩ Tryz.func160 0
def Azw:Au:=As [g_0,g_3,g_0,g_3,g_3,g_3,g_0] (fun d=>(An9 d.1 d.2.1 d.2.2.1 d.2.2.2.1 d.2.2.2.2.1 d.2.2.2.2.2.1 d.2.2.2.2.2.2.1).val) fun r=>([rv F9 r.1,rv g_1 r.2],[])
def Aoa:Fns:=[Fz 218 An6,Fz 71 Adp,Fz 205 Ank,Fz 226 Bg7,Fz 160 Atk,Fz 141 Awi]
theorem Bbl:CfgOk Tryz.prog (D7 Aoa):=Gz Nm J3 (show Lp Tryz.prog Aoa from⟨Ax1,Aje,Axi,Boh,A9r,Azv,trivial⟩)
def A2k:Sk:=⟨[(0,.v false [(.sl 5 [.int .u8],.ro)]),(1,.v false [(.int .i64,.nil)]),(14,.box 14 0),(17,.box 17 0),(18,.v false [(.int .i64,.nil)])],[(14,[(.int .i64,.nil),(.int .i64,.nil),(.sl 5 [.int .u8],(.own 7000000)),(.sl 5 [.int .u8],(.own 7000001)),(.int .i64,.nil),(.sl 5 [.int .u8],(.own 7000002)),(.sl 5 [.int .u8],(.own 7000003)),(.int .i64,.nil),(.int .i64,.nil),(.sl 5 [.int .u8],(.own 7000004)),(.sl 5 [.int .u8],(.own 7000005))]),(17,[(.int .i64,.nil),(.int .i64,.nil),(.sl 5 [.int .u8],(.own 7000006)),(.sl 5 [.int .u8],(.own 7000007)),(.int .i64,.nil),(.sl 5 [.int .u8],(.own 7000008)),(.sl 5 [.int .u8],(.own 7000009)),(.int .i64,.nil),(.int .i64,.nil),(.sl 5 [.int .u8],(.own 7000010)),(.sl 5 [.int .u8],(.own 7000011))])],[7000000,7000001,7000002,7000003,7000004,7000005,7000006,7000007,7000008,7000009,7000010,7000011]⟩
def A2l:List (Ex×Sk):=[((.exit 0),⟨[(0,.v false [(.sl 5 [.int .u8],.ro)]),(1,.v false [(.int .i64,.nil)]),(14,.box 14 0),(17,.box 17 0)],[(14,[(.int .i64,.nil),(.int .i64,.nil),(.sl 5 [.int .u8],(.own 7000000)),(.sl 5 [.int .u8],(.own 7000001)),(.int .i64,.nil),(.sl 5 [.int .u8],(.own 7000002)),(.sl 5 [.int .u8],(.own 7000003)),(.int .i64,.nil),(.int .i64,.nil),(.sl 5 [.int .u8],(.own 7000004)),(.sl 5 [.int .u8],(.own 7000005))]),(17,[(.int .i64,.nil),(.int .i64,.nil),(.sl 5 [.int .u8],(.own 7000006)),(.sl 5 [.int .u8],(.own 7000007)),(.int .i64,.nil),(.sl 5 [.int .u8],(.own 7000008)),(.sl 5 [.int .u8],(.own 7000009)),(.int .i64,.nil),(.int .i64,.nil),(.sl 5 [.int .u8],(.own 7000010)),(.sl 5 [.int .u8],(.own 7000011))])],[7000000,7000001,7000002,7000003,7000004,7000005,7000006,7000007,7000008,7000009,7000010,7000011]⟩)]
def Azx:G5:=fun i st=>cond (Nat.beq i 6) (lam A2k 7000000 A2l Oz st) <| .fail
theorem Bfg (cx:Cx) (hp:cx.pin.length<=0):Ee Tryz.prog cx Tryz.f172.ntmps Azx (Bd Tryz.f172 0):=Fp Bbl hp (Ds (by kernel_rfl:B5 (Bd Tryz.f172 0)=[]) trivial) (by kernel_rfl) (fun d=>(by kernel_rfl:bod (D7 Aoa) 0 Tryz.f172.ntmps Azx (Bd Tryz.f172 0) A2k 7000000 A2l d=Oz d))
theorem A7m:Fq 172 Azw:=Oy Bbl Tryz.func172 (by kernel_rfl) (by kernel_rfl) (fun cx b hp hb=>Ds (by kernel_rfl:B5 (Tryz.f172.body.getD .skip)=[Bd Tryz.f172 0]) ⟨Bfg cx hp,trivial⟩ b hb) (fun d=>(by kernel_rfl:Ig (D7 Aoa) 0 Azx Tryz.f172 .plain (mkA [g_0,g_3,g_0,g_3,g_3,g_3,g_0] d)=(An9 d.1 d.2.1 d.2.2.1 d.2.2.2.1 d.2.2.2.2.1 d.2.2.2.2.2.1 d.2.2.2.2.2.2.1).run fun r=>some ([rv F9 r.1,rv g_1 r.2],[])))
def A2m:Au:=As [g_2,F9] (fun d=>(Aob d.1 d.2.1).val) fun r=>([rv F9 r.1],[rv g_2 r.2])
theorem Bfh:Fn Tryz.prog 225 (.box [3] true true) A2m:=mkF [Fz 170 Anm,(85,(.box [3] true true),D9),(89,(.box [3] true true),I8),(92,(.box [3] true true),An3)] ⟨Axj,D5,Ix,Ax0,trivial⟩ Tryz.func225 1
def Atl:Au:=As [g_2,Ik] (fun d=>(Afd d.1 d.2.1).val) fun r=>([rv F9 r.1],[rv g_2 r.2])
theorem A9s:Fn Tryz.prog 171 (.box [3] true true) Atl:=mkF [(224,(.box [3] true true),A2i),(47,(.box [3] true true),Ka),Fz 207 Ahu,(89,(.box [3] true true),I8),Fz 172 Azw,(225,(.box [3] true true),A2m)] ⟨Bfe,Kn,Anq,Ix,A7m,Bfh,trivial⟩ Tryz.func171 1
def Aru:Au:=As [g_3] (fun d=>(Acs d.1).val) (Fo g_0)
theorem A5g:Fq 173 Aru:=mkF [Fz 51 Cy,Fz 143 Ld] ⟨Cp,Km,trivial⟩ Tryz.func173 0
def A2n:Au:=As [g_2] (fun d=>(Aoc d.1).val) fun r=>([rv Fg r.1],[rv g_2 r.2])
theorem Bfi:Fn Tryz.prog 133 (.box [3] true true) A2n:=mkF [(47,(.box [3] true true),Ka),(85,(.box [3] true true),D9),(169,(.box [3] true true),Wn),Fz 88 Q9] ⟨Kn,D5,Aay,Ra,trivial⟩ Tryz.func133 1
def A7n:Au:=As [g_2] (fun d=>(Atm d.1).val) fun r=>([rv g_3 r.1],[rv g_2 r.2])
theorem Biw:Fn Tryz.prog 48 (.box [3] true true) A7n:=mkF [(89,(.box [3] true true),I8)] ⟨Ix,trivial⟩ Tryz.func48 1
def A7o:Au:=As [g_2] (fun d=>(Atn d.1).val) fun r=>([rv Fg r.1],[rv g_2 r.2])
theorem Bix:Fn Tryz.prog 49 (.box [3] true true) A7o:=mkF [(133,(.box [3] true true),A2n),(85,(.box [3] true true),D9),(48,(.box [3] true true),A7n),(89,(.box [3] true true),I8)] ⟨Bfi,D5,Biw,Ix,trivial⟩ Tryz.func49 1
def Ato:Au:=As [g_2,Lc] (fun d=>(Afe d.1 d.2.1).val) fun r=>([rv Fg r.1,rv F9 r.2.1],[rv g_2 r.2.2])
theorem A9t:Fn Tryz.prog 93 (.box [3] true false) Ato:=mkF [(47,(.box [3] true true),Ka),(85,(.box [3] true true),D9),Fz 88 Q9,(171,(.box [3] true true),Atl),Fz 172 Azw,Fz 173 Aru,(49,(.box [3] true true),A7o)] ⟨Kn,D5,Ra,A9s,A7m,A5g,Bix,trivial⟩ Tryz.func93 1
def Atp:Au:=As [g_2,Lu] (fun d=>(Aff d.1 d.2.1).val) fun r=>([rv g_3 r.1,rv Fg r.2.1,rv g_0 r.2.2.1],[rv g_2 r.2.2.2])
theorem A9u:Fn Tryz.prog 24 (.box [3] true true) Atp:=mkF [(85,(.box [3] true true),D9),Fz 88 Q9,(89,(.box [3] true true),I8),(84,(.box [3] true true),Iw),Fz 90 Ati,(47,(.box [3] true true),Ka),Fz 57 Bbj,Fz 91 Ae3,(92,(.box [3] true true),An3),(93,(.box [3] true false),Ato)] ⟨D5,Ra,Ix,I6,A9p,Kn,Blm,Ars,Ax0,A9t,trivial⟩ Tryz.func24 1
def Alm:Au:=As [g_0] (fun d=>(Sz d.1).val) fun r=>([rv Lu r.1,rv g_3 r.2.1,rv Fg r.2.2.1,rv g_0 r.2.2.2],[])
theorem Ahy:Fq 7 Alm:=mkF [(22,.ret,A7a),(23,(.box [3] true true),Axy),(24,(.box [3] true true),Atp)] ⟨Bin,Bbh,A9u,trivial⟩ Tryz.func7 0
def Cz:Au:=As [g_0] (fun d=>(Atq d.1).val) (Fo g_0)
theorem Cr:Fq 95 Cz:=mkF [] trivial Tryz.func95 0
def Atr:Au:=As [g_4] (fun d=>(Afg d.1).val) (Fo g_4)
theorem A9v:Fq 94 Atr:=Df [Fz 95 Cz] ⟨Cr,trivial⟩ ⟨[(3,.v false [(.sl 22 [.sl 5 [.int .u8]],(.own 4000000))]),(7,.v false [(.sl 22 [.sl 5 [.int .u8]],.ro)]),(8,.v false [(.int .i64,.nil)]),(9,.v false [(.int .i64,.nil)])],[],[4000000]⟩ 4000000 [((.exit 0),⟨[(3,.v false [(.sl 22 [.sl 5 [.int .u8]],(.own 4000000))])],[],[4000000]⟩)] 3 Kx Tryz.func94 0
def Aju:Au:=As [M5] (fun d=>(Ajv d.1).val) (Fo M5)
theorem Ats:Fq 286 Aju:=mkF [] trivial Tryz.func286 0
def Adr:Au:=As [Ox] (fun d=>(Aod d.1).val) (Fo Ox)
theorem Ajw:Fq 262 Adr:=mkF [Fz 95 Cz,Fz 286 Aju] ⟨Cr,Ats,trivial⟩ Tryz.func262 0
def Le:Au:=As [Ik] (fun d=>(Afh d.1).val) (Fo Ik)
theorem L7:Fq 227 Le:=mkF [Fz 95 Cz,Fz 262 Adr] ⟨Cr,Ajw,trivial⟩ Tryz.func227 0
def Pt:Au:=As [I5] (fun d=>(Acu d.1).val) (Fo I5)
theorem S7:Fq 228 Pt:=Df [Fz 95 Cz] ⟨Cr,trivial⟩ ⟨[(2,.box 2 0),(3,.box 3 0),(10,.v false [(.sl 188 h_4,.ro)]),(11,.v false [(.int .i64,.nil)]),(12,.v false [(.int .i64,.nil)])],[(2,[(.int .i64,.nil),(.int .i64,.nil),(.sl 188 h_4,(.own 4000000))]),(3,[(.int .i64,.nil),(.int .i64,.nil),(.sl 188 h_4,(.own 4000001))])],[4000000,4000001]⟩ 4000000 [((.exit 0),⟨[(2,.box 2 0),(3,.box 3 0)],[(2,[(.int .i64,.nil),(.int .i64,.nil),(.sl 188 h_4,(.own 4000000))]),(3,[(.int .i64,.nil),(.int .i64,.nil),(.sl 188 h_4,(.own 4000001))])],[4000000,4000001]⟩)] 3 Jq Tryz.func228 0
def Nt:Au:=As [Lc] (fun d=>(Afi d.1).val) (Fo Lc)
theorem Pu:Fq 174 Nt:=mkF [Fz 95 Cz,Fz 227 Le,Fz 228 Pt] ⟨Cr,L7,S7,trivial⟩ Tryz.func174 0
def Abb:Au:=As [g_9] (fun d=>(Ajx d.1).val) (Fo g_9)
theorem Afj:Fq 96 Abb:=Df [Fz 174 Nt] ⟨Pu,trivial⟩ ⟨[(2,.box 2 0),(3,.box 3 0),(10,.v false [(.sl 88 Eb,.ro)]),(11,.v false [(.int .i64,.nil)]),(12,.v false [(.int .i64,.nil)])],[(2,[(.int .i64,.nil),(.sl 88 Eb,(.own 4000000))]),(3,[(.int .i64,.nil),(.sl 88 Eb,(.own 4000001))])],[4000000,4000001]⟩ 4000000 [((.exit 0),⟨[(2,.box 2 0),(3,.box 3 0)],[(2,[(.int .i64,.nil),(.sl 88 Eb,(.own 4000000))]),(3,[(.int .i64,.nil),(.sl 88 Eb,(.own 4000001))])],[4000000,4000001]⟩)] 3 L8 Tryz.func96 0
def Qt:Au:=As [Qq] (fun d=>(Ww d.1).val) (Fo Qq)
theorem Vm:Fq 97 Qt:=mkF [] trivial Tryz.func97 0
def Aln:Au:=As [Lu] (fun d=>(Zs d.1).val) (Fo Lu)
theorem A2o:Fq 25 Aln:=mkF [Fz 94 Atr,Fz 95 Cz,Fz 96 Abb,Fz 97 Qt] ⟨A9v,Cr,Afj,Vm,trivial⟩ Tryz.func25 0
def B7:Au:=As [g_3,g_3,g_3] (fun d=>(Aoe d.1 d.2.1 d.2.2.1).val) (Fo g_1)
theorem By:Fq 26 B7:=mkF [] trivial Tryz.func26 0
def Ahz:Au:=As [g_8] (fun d=>(A7p d.1).val) (Fo g_1)
theorem Aof:Fq 34 Ahz:=mkF [] trivial Tryz.func34 0
def Aog:Au:=As [g_5] (fun d=>(Aoh d.1).val) (Fo g_1)
theorem Ax3:Fq 35 Aog:=mkF [Fz 26 B7] ⟨By,trivial⟩ Tryz.func35 0
def Aoi:Au:=As [g_9] (fun d=>(Aoj d.1).val) (Fo g_3)
theorem Att:Fq 15 Aoi:=Df [] trivial ⟨[(3,.v false [(.int .i64,.nil)]),(7,.v false [(.sl 88 Eb,.ro)]),(8,.v false [(.int .i64,.nil)]),(9,.v false [(.int .i64,.nil)])],[],[]⟩ 4000000 [((.exit 0),⟨[(3,.v false [(.int .i64,.nil)])],[],[]⟩)] 3 Kb Tryz.func15 0
def Ha:Au:=As [g_0] (fun d=>(Ax4 d.1).val) (Fo g_1)
theorem Hb:Fq 118 Ha:=mkF [] trivial Tryz.func118 0
def Hi:Au:=As [g_0,g_0] (fun d=>(Arv d.1 d.2.1).val) (Fo g_1)
theorem Hp:Fq 44 Hi:=mkF [] trivial Tryz.func44 0
def Atu:Au:=As [g_6,g_6] (fun d=>(Afk d.1 d.2.1).val) (Fo g_1)
theorem A9w:Fq 271 Atu:=Df [] trivial ⟨[(1,.v false [(.sl 3 [.int .i64],.ro)]),(12,.v false [(.sl 3 [.int .i64],.ro)]),(13,.v false [(.int .i64,.nil)]),(14,.v false [(.int .i64,.nil)])],[],[]⟩ 5000000 [(.ret,⟨[(4,.v false [(.bool,.nil)])],[],[]⟩),((.exit 0),⟨[],[],[]⟩)] 4 Alo Tryz.func271 0
def Aok:Au:=As [Ox,Ox] (fun d=>(Aol d.1 d.2.1).val) (Fo g_1)
theorem Ax5:Fq 244 Aok:=mkF [Fz 44 Hi,Fz 271 Atu] ⟨Hp,A9w,trivial⟩ Tryz.func244 0
def Alp:Au:=As [Ik] (fun d=>(Zt d.1).val) (Fo g_1)
theorem A2p:Fq 195 Alp:=mkF [Fz 244 Aok] ⟨Ax5,trivial⟩ Tryz.func195 0
def S8:Au:=As [g_3] (fun d=>(Aom d.1).val) (Fo g_1)
theorem Ue:Fq 231 S8:=mkF [] trivial Tryz.func231 0
def Wx:Au:=As [g_6,g_3] (fun d=>(Afl d.1 d.2.1).val) (Fo g_1)
theorem Acv:Fq 292 Wx:=Df [Fz 26 B7] ⟨By,trivial⟩ ⟨[(0,.v false [(.sl 3 [.int .i64],.ro)]),(1,.v false [(.int .i64,.nil)]),(7,.v false [(.sl 3 [.int .i64],.ro)]),(8,.v false [(.int .i64,.nil)]),(9,.v false [(.int .i64,.nil)])],[],[]⟩ 3000000 [(.ret,⟨[(4,.v false [(.bool,.nil)])],[],[]⟩),((.exit 0),⟨[(0,.v false [(.sl 3 [.int .i64],.ro)]),(1,.v false [(.int .i64,.nil)])],[],[]⟩)] 2 Nu Tryz.func292 0
def Aon:Au:=As [M5,g_3] (fun d=>(Aoo d.1 d.2.1).val) (Fo g_1)
theorem Ax6:Fq 293 Aon:=mkF [] trivial Tryz.func293 0
def Atv:Au:=As [M5] (fun d=>(Atw d.1).val) (Fo g_1)
theorem A2q:Fq 272 Atv:=Df [Fz 26 B7,Fz 292 Wx,Fz 293 Aon] ⟨By,Acv,Ax6,trivial⟩ ⟨[(1,.box 1 0),(3,.v false [(.int .i64,.nil)])],[(1,[(.int .i64,.nil),(.sl 3 [.int .i64],.ro)])],[]⟩ 5000000 [(.ret,⟨[(2,.v false [(.bool,.nil)])],[],[]⟩),((.exit 0),⟨[(1,.box 1 0)],[(1,[(.int .i64,.nil),(.sl 3 [.int .i64],.ro)])],[]⟩)] 4 Qg Tryz.func272 0
def Afm:Au:=As [Ox] (fun d=>(Azy d.1).val) (Fo g_1)
theorem Ah0:Fq 245 Afm:=mkF [Fz 26 B7,Fz 272 Atv] ⟨By,A2q,trivial⟩ Tryz.func245 0
def A7q:Au:=As [Ik] (fun d=>(Atx d.1).val) (Fo g_1)
theorem Biy:Fq 246 A7q:=mkF [Fz 244 Aok,Fz 245 Afm,Fz 26 B7] ⟨Ax5,Ah0,By,trivial⟩ Tryz.func246 0
def Mi:Au:=As [Ik] (fun d=>(Aop d.1).val) (Fo g_1)
theorem M9:Fq 196 Mi:=mkF [Fz 231 S8,Fz 118 Ha,Fz 245 Afm,Fz 246 A7q] ⟨Ue,Hb,Ah0,Biy,trivial⟩ Tryz.func196 0
def H2:Au:=As [Fg] (fun d=>(Aoq d.1).val) (Fo g_1)
theorem Hx:Fq 27 H2:=mkF [Fz 26 B7] ⟨By,trivial⟩ Tryz.func27 0
def Abc:Au:=As [I5] (fun d=>(Abd d.1).val) (Fo g_1)
def Uf:Fns:=[Fz 27 H2,Fz 118 Ha,Fz 26 B7]
theorem Ajy:CfgOk Tryz.prog (D7 Uf):=Gz Nm J3 (show Lp Tryz.prog Uf from⟨Hx,Hb,By,trivial⟩)
def Arw:Sk:=⟨[(1,.box 1 0),(18,.v false [(.sl 188 h_4,.ro)]),(19,.v false [(.int .i64,.nil)]),(20,.v false [(.int .i64,.nil)])],[(1,[(.int .i64,.nil),(.int .i64,.nil),(.sl 188 h_4,.ro)])],[]⟩
def Arx:List (Ex×Sk):=[(.ret,⟨[(2,.v false [(.bool,.nil)])],[],[]⟩),((.exit 0),⟨[],[],[]⟩)]
def Ary:Sk:=⟨[(1,.box 1 0),(4,.box 4 0),(18,.v false [(.sl 188 h_4,.ro)]),(19,.v false [(.int .i64,.nil)]),(20,.v false [(.int .i64,.nil)]),(51,.v false [(.sl 188 h_4,.ro)]),(52,.v false [(.int .i64,.nil)]),(53,.v false [(.int .i64,.nil)])],[(1,[(.int .i64,.nil),(.int .i64,.nil),(.sl 188 h_4,.ro)]),(4,[(.int .i64,.nil),(.int .i64,.nil),(.sl 5 [.int .u8],.ro),(.int .i64,.nil)])],[]⟩
def Arz:List (Ex×Sk):=[(.ret,⟨[(2,.v false [(.bool,.nil)])],[],[]⟩),((.exit 2),⟨[(1,.box 1 0),(18,.v false [(.sl 188 h_4,.ro)]),(19,.v false [(.int .i64,.nil)]),(20,.v false [(.int .i64,.nil)])],[(1,[(.int .i64,.nil),(.int .i64,.nil),(.sl 188 h_4,.ro)])],[]⟩)]
def Ug:G5:=fun i st=>cond (Nat.beq i 9) (lam Ary 10000000 Arz Jz st) <| cond (Nat.beq i 4) (lam Arw 5000000 Arx L9 st) <| .fail
theorem A5h (cx:Cx) (hp:cx.pin.length<=0):Ee Tryz.prog cx Tryz.f197.ntmps Ug (Bd Tryz.f197 1):=Fp Ajy hp (Ds (by kernel_rfl:B5 (Bd Tryz.f197 1)=[]) trivial) (by kernel_rfl) (fun d=>(by kernel_rfl:bod (D7 Uf) 0 Tryz.f197.ntmps Ug (Bd Tryz.f197 1) Ary 10000000 Arz d=Jz d))
theorem A5i (cx:Cx) (hp:cx.pin.length<=0):Ee Tryz.prog cx Tryz.f197.ntmps Ug (Bd Tryz.f197 0):=Fp Ajy hp (Ds (by kernel_rfl:B5 (Bd Tryz.f197 0)=[Bd Tryz.f197 1]) ⟨A5h cx hp,trivial⟩) (by kernel_rfl) (fun d=>(by kernel_rfl:bod (D7 Uf) 0 Tryz.f197.ntmps Ug (Bd Tryz.f197 0) Arw 5000000 Arx d=L9 d))
theorem Afn:Fq 197 Abc:=Oy Ajy Tryz.func197 (by kernel_rfl) (by kernel_rfl) (fun cx b hp hb=>Ds (by kernel_rfl:B5 (Tryz.f197.body.getD .skip)=[Bd Tryz.f197 0]) ⟨A5i cx hp,trivial⟩ b hb) (fun d=>(by kernel_rfl:Ig (D7 Uf) 0 Ug Tryz.f197 .plain (mkA [I5] d)=(Abd d.1).run fun r=>some ([rv g_1 r],[])))
def Wy:Au:=As [Lc] (fun d=>(Aor d.1).val) (Fo g_1)
theorem Abe:Fq 117 Wy:=mkF [Fz 26 B7,Fz 118 Ha,Fz 195 Alp,Fz 196 Mi,Fz 44 Hi,Fz 197 Abc] ⟨By,Hb,A2p,M9,Hp,Afn,trivial⟩ Tryz.func117 0
def Wz:Au:=As [g_9,g_0] (fun d=>(Aos d.1 d.2.1).val) (Fo g_3)
theorem Abf:Fq 107 Wz:=Df [Fz 44 Hi] ⟨Hp,trivial⟩ ⟨[(1,.v false [(.sl 5 [.int .u8],.ro)]),(8,.v false [(.sl 88 Eb,.ro)]),(9,.v false [(.int .i64,.nil)]),(10,.v false [(.int .i64,.nil)])],[],[]⟩ 3000000 [(.ret,⟨[(4,.v false [(.int .i64,.nil)])],[],[]⟩),((.exit 0),⟨[],[],[]⟩)] 2 Rf Tryz.func107 0
def Ah1:Au:=As [g_9] (fun d=>(Aty d.1).val) (Fo g_1)
theorem Aot:Fq 36 Ah1:=Df [Fz 26 B7,Fz 15 Aoi,Fz 117 Wy,Fz 107 Wz] ⟨By,Att,Abe,Abf,trivial⟩ ⟨[(1,.box 1 0),(23,.v false [(.sl 88 Eb,.ro)]),(24,.v false [(.int .i64,.nil)]),(25,.v false [(.int .i64,.nil)])],[(1,[(.int .i64,.nil),(.sl 88 Eb,.ro)])],[]⟩ 5000000 [(.ret,⟨[(2,.v false [(.bool,.nil)])],[],[]⟩),((.exit 0),⟨[],[],[]⟩)] 4 Uh Tryz.func36 0
def Rg:Au:=As [Qq,Fg] (fun d=>(Afo d.1 d.2.1).val) (Fo g_3)
theorem U9:Fq 98 Rg:=Df [] trivial ⟨[(3,.box 3 0),(7,.v false [(.sl 53 h_2,.ro)]),(8,.v false [(.int .i64,.nil)]),(9,.v false [(.int .i64,.nil)])],[(3,[(.int .i64,.nil),(.int .i64,.nil)])],[]⟩ 3000000 [(.ret,⟨[(4,.v false [(.int .i64,.nil)])],[],[]⟩),((.exit 0),⟨[],[],[]⟩)] 2 Nv Tryz.func98 0
def Pv:Au:=As [Qq] (fun d=>(Acw d.1).val) (Fo g_1)
theorem S9:Fq 37 Pv:=Df [Fz 27 H2,Fz 26 B7,Fz 98 Rg] ⟨Hx,By,U9,trivial⟩ ⟨[(0,.v false [(.sl 53 h_2,.ro)]),(8,.v false [(.sl 53 h_2,.ro)]),(9,.v false [(.int .i64,.nil)]),(10,.v false [(.int .i64,.nil)])],[],[]⟩ 5000000 [(.ret,⟨[(2,.v false [(.bool,.nil)])],[],[]⟩),((.exit 0),⟨[],[],[]⟩)] 4 Mj Tryz.func37 0
def Ab1:Au:=As [g_0] (fun d=>(Atz d.1).val) (Fo g_1)
theorem Ads:Fq 38 Ab1:=mkF [Fz 26 B7] ⟨By,trivial⟩ Tryz.func38 0
def Afp:Au:=As [Lu] (fun d=>(W0 d.1).val) (Fo g_1)
def Rh:Fns:=[Fz 26 B7,Fz 34 Ahz,Fz 35 Aog,Fz 36 Ah1,Fz 37 Pv,Fz 38 Ab1]
theorem Afq:CfgOk Tryz.prog (D7 Rh):=Gz Nm J3 (show Lp Tryz.prog Rh from⟨By,Aof,Ax3,Aot,S9,Ads,trivial⟩)
def Ah2:Sk:=⟨[(1,.box 1 0),(49,.v false [(.sl 88 Eb,.ro)]),(50,.v false [(.int .i64,.nil)]),(51,.v false [(.int .i64,.nil)])],[(1,[(.sl 22 [.sl 5 [.int .u8]],.ro),(.sl 5 [.int .u8],.ro),(.sl 5 [.int .u8],.ro),(.int .i64,.nil),(.int .i64,.nil),(.sl 88 Eb,.ro),(.sl 53 h_2,.ro)])],[]⟩
def Ah3:List (Ex×Sk):=[(.ret,⟨[(2,.v false [(.bool,.nil)])],[],[]⟩),((.exit 2),⟨[],[],[]⟩)]
def Alq:Sk:=⟨[(1,.box 1 0),(37,.v false [(.sl 22 [.sl 5 [.int .u8]],.ro)]),(38,.v false [(.int .i64,.nil)]),(39,.v false [(.int .i64,.nil)])],[(1,[(.sl 22 [.sl 5 [.int .u8]],.ro),(.sl 5 [.int .u8],.ro),(.sl 5 [.int .u8],.ro),(.int .i64,.nil),(.int .i64,.nil),(.sl 88 Eb,.ro),(.sl 53 h_2,.ro)])],[]⟩
def Alr:List (Ex×Sk):=[(.ret,⟨[(2,.v false [(.bool,.nil)])],[],[]⟩),((.exit 0),⟨[(1,.box 1 0)],[(1,[(.sl 22 [.sl 5 [.int .u8]],.ro),(.sl 5 [.int .u8],.ro),(.sl 5 [.int .u8],.ro),(.int .i64,.nil),(.int .i64,.nil),(.sl 88 Eb,.ro),(.sl 53 h_2,.ro)])],[]⟩)]
def Ri:G5:=fun i st=>cond (Nat.beq i 4) (lam Alq 5000000 Alr Ky st) <| cond (Nat.beq i 10) (lam Ah2 11000000 Ah3 Jr st) <| .fail
theorem A2r (cx:Cx) (hp:cx.pin.length<=0):Ee Tryz.prog cx Tryz.f9.ntmps Ri (Bd Tryz.f9 0):=Fp Afq hp (Ds (by kernel_rfl:B5 (Bd Tryz.f9 0)=[]) trivial) (by kernel_rfl) (fun d=>(by kernel_rfl:bod (D7 Rh) 0 Tryz.f9.ntmps Ri (Bd Tryz.f9 0) Alq 5000000 Alr d=Ky d))
theorem Azz (cx:Cx) (hp:cx.pin.length<=0):Ee Tryz.prog cx Tryz.f9.ntmps Ri (Bd Tryz.f9 1):=Fp Afq hp (Ds (by kernel_rfl:B5 (Bd Tryz.f9 1)=[]) trivial) (by kernel_rfl) (fun d=>(by kernel_rfl:bod (D7 Rh) 0 Tryz.f9.ntmps Ri (Bd Tryz.f9 1) Ah2 11000000 Ah3 d=Jr d))
theorem Ar0:Fq 9 Afp:=Oy Afq Tryz.func9 (by kernel_rfl) (by kernel_rfl) (fun cx b hp hb=>Ds (by kernel_rfl:B5 (Tryz.f9.body.getD .skip)=[Bd Tryz.f9 0,Bd Tryz.f9 1]) ⟨A2r cx hp,Azz cx hp,trivial⟩ b hb) (fun d=>(by kernel_rfl:Ig (D7 Rh) 0 Ri Tryz.f9 .plain (mkA [Lu] d)=(W0 d.1).run fun r=>some ([rv g_1 r],[])))
def Bbm:Au:=As [Qq,Fg,g_3] (fun d=>(Az0 d.1 d.2.1 d.2.2.1).val) (Fo Qq)
theorem Bln:Fq 28 Bbm:=mkF [Fz 97 Qt,Fz 37 Pv,Fz 27 H2,Fz 26 B7,Fz 98 Rg] ⟨Vm,S9,Hx,By,U9,trivial⟩ Tryz.func28 0
def At0:Au:=As [g_8,g_3] (fun d=>(At1 d.1 d.2.1).val) fun r=>([rv g_0 r.1],[rv g_8 r.2])
theorem A2s:Fn Tryz.prog 43 (.box [3] false true) At0:=mkF [Fz 95 Cz] ⟨Cr,trivial⟩ Tryz.func43 1
def Bg8:Au:=As [g_0,g_3,g_3] (fun d=>(A5j d.1 d.2.1 d.2.2.1).val) fun r=>([rv g_0 r.1,rv g_1 r.2],[])
theorem Boi:Fq 198 Bg8:=mkF [] trivial Tryz.func198 0
def Az1:Au:=As [g_0,g_3,g_3] (fun d=>(Az2 d.1 d.2.1 d.2.2.1).val) fun r=>([rv g_3 r.1,rv g_3 r.2.1,rv g_1 r.2.2],[])
theorem A7r:Fq 124 Az1:=Df [Fz 198 Bg8] ⟨Boi,trivial⟩ ⟨[(1,.v false [(.int .i64,.nil)]),(2,.v false [(.int .i64,.nil)]),(11,.v false [(.int .i64,.nil)]),(29,.v false [(.sl 5 [.int .u8],(.own 9000000))]),(30,.v false [(.int .i64,.nil)]),(31,.v false [(.int .i64,.nil)])],[],[9000000]⟩ 9000000 [((.exit 0),⟨[(1,.v false [(.int .i64,.nil)]),(2,.v false [(.int .i64,.nil)]),(11,.v false [(.int .i64,.nil)])],[],[]⟩)] 8 Ta Tryz.func124 0
def A2t:Au:=As [g_8,g_3] (fun d=>(Aou d.1 d.2.1).val) fun r=>([rv g_3 r.1],[rv g_8 r.2])
theorem Bfj:Fn Tryz.prog 42 (.box [3] false true) A2t:=mkF [(43,(.box [3] false true),At0),Fz 124 Az1] ⟨A2s,A7r,trivial⟩ Tryz.func42 1
def O0:Au:=As [g_3] (fun d=>(Aov d.1).val) (Fo g_1)
theorem Qh:Fq 31 O0:=mkF [Fz 26 B7] ⟨By,trivial⟩ Tryz.func31 0
def A2u:Au:=As [g_3,g_3] (fun d=>(Aow d.1 d.2.1).val) (Fo g_1)
theorem Bfk:Fq 119 A2u:=mkF [] trivial Tryz.func119 0
def Ar1:Au:=As [F9,F9] (fun d=>(Acx d.1 d.2.1).val) (Fo g_1)
theorem A5k:Fq 120 Ar1:=mkF [Fz 44 Hi] ⟨Hp,trivial⟩ Tryz.func120 0
def Iy:Au:=As [F9] (fun d=>(Ajz d.1).val) (Fo g_1)
theorem I9:Fq 39 Iy:=mkF [Fz 26 B7,Fz 118 Ha,Fz 31 O0,Fz 119 A2u,Fz 120 Ar1] ⟨By,Hb,Qh,Bfk,A5k,trivial⟩ Tryz.func39 0
def Hj:Au:=As [g_4] (fun d=>(Aox d.1).val) (Fo g_0)
theorem Hc:Fq 122 Hj:=Df [] trivial ⟨[(3,.v false [(.sl 5 [.int .u8],(.own 4000000))]),(7,.v false [(.sl 22 [.sl 5 [.int .u8]],.ro)]),(8,.v false [(.int .i64,.nil)]),(9,.v false [(.int .i64,.nil)])],[],[4000000]⟩ 4000000 [((.exit 0),⟨[(3,.v false [(.sl 5 [.int .u8],(.own 4000000))])],[],[4000000]⟩)] 3 Nw Tryz.func122 0
def Lf:Au:=As [g_0,g_3,g_3] (fun d=>(Bbn d.1 d.2.1 d.2.2.1).val) (Fo g_0)
theorem Ko:Fq 123 Lf:=Df [] trivial ⟨[(1,.v false [(.int .i64,.nil)]),(7,.v false [(.sl 5 [.int .u8],(.own 6000000))]),(8,.v false [(.int .i64,.nil)])],[],[6000000]⟩ 6000000 [((.exit 0),⟨[(7,.v false [(.sl 5 [.int .u8],(.own 6000000))])],[],[6000000]⟩)] 5 A2v Tryz.func123 0
def Afr:Au:=As [F9] (fun d=>(Afs d.1).val) (Fo g_0)
theorem Ar2:Fq 41 Afr:=mkF [Fz 39 Iy,Fz 122 Hj,Fz 123 Lf] ⟨I9,Hc,Ko,trivial⟩ Tryz.func41 0
def Aft:Au:=As [g_0] (fun d=>(Afu d.1).val) fun r=>([rv F9 r.1,rv g_1 r.2],[])
theorem Ar3:Fq 14 Aft:=mkF [(42,(.box [3] false true),A2t),(43,(.box [3] false true),At0),Fz 31 O0,Fz 39 Iy,Fz 41 Afr,Fz 44 Hi] ⟨Bfj,A2s,Qh,I9,Ar2,Hp,trivial⟩ Tryz.func14 0
def Az3:Au:=As [g_9,Fg] (fun d=>(Az4 d.1 d.2.1).val) (Fo g_1)
theorem A7s:Fq 12 Az3:=Df [] trivial ⟨[(3,.box 3 0),(8,.v false [(.sl 88 Eb,.ro)]),(9,.v false [(.int .i64,.nil)]),(10,.v false [(.int .i64,.nil)])],[(3,[(.int .i64,.nil),(.int .i64,.nil)])],[]⟩ 3000000 [(.ret,⟨[(4,.v false [(.bool,.nil)])],[],[]⟩),((.exit 0),⟨[],[],[]⟩)] 2 W1 Tryz.func12 0
def Aj0:Au:=As [Qq,Fg] (fun d=>(Abg d.1 d.2.1).val) (Fo g_3)
theorem At2:Fq 116 Aj0:=mkF [Fz 98 Rg,Fz 37 Pv] ⟨U9,S9,trivial⟩ Tryz.func116 0
def Aoy:Au:=As [Lu,Fg,g_3] (fun d=>(Aoz d.1 d.2.1 d.2.2.1).val) (Fo g_1)
theorem Ax7:Fq 99 Aoy:=mkF [Fz 12 Az3,Fz 116 Aj0] ⟨A7s,At2,trivial⟩ Tryz.func99 0
def A7t:Au:=As [] (fun d=>(A7u).val) (Fo g_6)
theorem Biz:Fq 304 A7t:=mkF [] trivial Tryz.func304 0
def Ax8:Au:=As [] (fun d=>(Ax9).val) (Fo Bau)
theorem Bbo:Fq 289 Ax8:=mkF [Fz 304 A7t] ⟨Biz,trivial⟩ Tryz.func289 0
def Ao0:Au:=As [Bau] (fun d=>(Ao1 d.1).val) (Fo g_1)
theorem Aya:Fq 300 Ao0:=mkF [Fz 292 Wx,Fz 26 B7] ⟨Acv,By,trivial⟩ Tryz.func300 0
def A5l:Au:=As [g_3,g_3] (fun d=>(A5m d.1 d.2.1).val) (Fo g_3)
theorem Bbp:Fq 309 A5l:=mkF [] trivial Tryz.func309 0
def At3:Au:=As [g_0] (fun d=>(W2 d.1).val) (Fo g_6)
def Rj:Fns:=[Fz 124 Az1,Fz 309 A5l]
theorem Afv:CfgOk Tryz.prog (D7 Rj):=Gz Nm J3 (show Lp Tryz.prog Rj from⟨A7r,Bbp,trivial⟩)
def Als:Sk:=⟨[(3,.v false [(.sl 3 [.int .i64],(.own 10000000))]),(5,.v false [(.int .i64,.nil)])],[],[10000000]⟩
def Alt:List (Ex×Sk):=[((.exit 2),⟨[(3,.v false [(.sl 3 [.int .i64],(.own 10000000))])],[],[10000000]⟩)]
def Alu:Sk:=⟨[(0,.v false [(.sl 5 [.int .u8],.ro)]),(3,.v false [(.sl 3 [.int .i64],(.own 6000000))]),(4,.v false [(.int .i64,.nil)])],[],[6000000]⟩
def Alv:List (Ex×Sk):=[((.exit 0),⟨[(3,.v false [(.sl 3 [.int .i64],(.own 6000000))])],[],[6000000]⟩)]
def Rk:G5:=fun i st=>cond (Nat.beq i 5) (lam Alu 6000000 Alv Kz st) <| cond (Nat.beq i 9) (lam Als 10000000 Alt K0 st) <| .fail
theorem A2w (cx:Cx) (hp:cx.pin.length<=0):Ee Tryz.prog cx Tryz.f308.ntmps Rk (Bd Tryz.f308 0):=Fp Afv hp (Ds (by kernel_rfl:B5 (Bd Tryz.f308 0)=[]) trivial) (by kernel_rfl) (fun d=>(by kernel_rfl:bod (D7 Rj) 0 Tryz.f308.ntmps Rk (Bd Tryz.f308 0) Alu 6000000 Alv d=Kz d))
theorem A2x (cx:Cx) (hp:cx.pin.length<=0):Ee Tryz.prog cx Tryz.f308.ntmps Rk (Bd Tryz.f308 1):=Fp Afv hp (Ds (by kernel_rfl:B5 (Bd Tryz.f308 1)=[]) trivial) (by kernel_rfl) (fun d=>(by kernel_rfl:bod (D7 Rj) 0 Tryz.f308.ntmps Rk (Bd Tryz.f308 1) Als 10000000 Alt d=K0 d))
theorem A9x:Fq 308 At3:=Oy Afv Tryz.func308 (by kernel_rfl) (by kernel_rfl) (fun cx b hp hb=>Ds (by kernel_rfl:B5 (Tryz.f308.body.getD .skip)=[Bd Tryz.f308 0,Bd Tryz.f308 1]) ⟨A2w cx hp,A2x cx hp,trivial⟩ b hb) (fun d=>(by kernel_rfl:Ig (D7 Rj) 0 Rk Tryz.f308 .plain (mkA [g_0] d)=(W2 d.1).run fun r=>some ([rv g_6 r],[])))
theorem Blo (n:Int) (w:World) (h0:0<=n) (h1:n<=63):
  Calls Tryz.prog 310 #[.int .i64 n] w (Ret w (.int .i64 (Ui[n.toNat]?.getD 0))):=by
 have hx: ∃x,Ui[n.toNat]? =some x:=⟨_,List.getElem?_eq_getElem (by simp[Ui];omega)⟩
 obtain⟨x,hx⟩:=hx
 have hcell:(At4 256 w A2y).cell? ⟨w.heap.size,n.toNat,none⟩=some (.int .i64 x):=by
  rw[Bfl];unfold A2y;rw[List.getElem?_toArray,List.getElem?_map,hx];rfl
 rw[hx]
 go_enter Tryz.func310,Tryz.ntmps310
 go_wp2_with (first|(refine A9y rfl 256 _ rfl A2y (by kernel_rfl) ?_)|(refine A9z rfl 256 rfl _ _ A2z (by kernel_rfl) (by kernel_rfl) (by kernel_rfl) ?_)|(refine A90 rfl 256 _ _ rfl A2y rfl rfl (by kernel_rfl) (by kernel_rfl) (by kernel_rfl) ?_))
 go_ret
 refine Ret.mk rfl ?_
 rw[Blp]
 exact(Dl.refl _).alloc _
theorem Blq (n:Int) (w:World) (h0: ¬(0<=n/\n<=63)):
  Calls Tryz.prog 310 #[.int .i64 n] w (Ret w (.int .i64 0)):=by
 by_cases h:n<0
 .go_enter Tryz.func310,Tryz.ntmps310
  go_wp2_with fail
  go_ret
  exact Ret.mk rfl (Dl.refl _)
 .have h2:63<n:=by omega
  go_enter Tryz.func310,Tryz.ntmps310
  go_wp2_with fail
  go_ret
  exact Ret.mk rfl (Dl.refl _)
def A91:List (Bool×List Sh):=[(false,[.int .i64])]
def A92 (r:YI):List RV×List RV:=([rv (false,[.int .i64]) r],[])
def Ar4:Au:=As A91 (fun d=>(Ar5 d.1).val) A92
theorem A5n:Fq 310 Ar4:=by
 refine⟨?_,Tryz.f310,Tryz.func310,by kernel_rfl,by kernel_rfl⟩
 intro rs res vals w G hv hG hr
 obtain⟨d,x,rfl,h1,h2⟩:=Bbq hv
 obtain⟨⟨n,_⟩,_⟩:=d
 cases h1
 subst h2
 match vals,hr with
 |[v],hr=>
  have e:v= .int .i64 n:=hr.1.1.1
  subst e
  refine(?_:Calls Tryz.prog 310 #[.int .i64 n] w (Ret w (.int .i64 (Ab2 n)))).mono fun e w' h=>Blr (Bls n) h
  unfold Ab2
  by_cases h:0<=n/\n<=63
  .rw[if_pos h];exact Blo n w h.1 h.2
  .rw[if_neg h];exact Blq n w h

def A7v:Au:=As [g_3,g_3] (fun d=>(A7w d.1 d.2.1).val) (Fo g_3)
theorem Bi0:Fq 311 A7v:=mkF [] trivial Tryz.func311 0
def At5:Au:=As [g_6,g_0] (fun d=>(W3 d.1 d.2.1).val) (Fo g_6)
def Rl:Fns:=[Fz 292 Wx,Fz 308 At3,Fz 309 A5l,Fz 310 Ar4,Fz 311 A7v]
theorem Afw:CfgOk Tryz.prog (D7 Rl):=Gz Nm J3 (show Lp Tryz.prog Rl from⟨Acv,A9x,Bbp,A5n,Bi0,trivial⟩)
def Ah4:Sk:=⟨[(0,.v false [(.sl 3 [.int .i64],.ro)]),(5,.v false [(.sl 3 [.int .i64],(.own 17000000))]),(133,.v false [(.sl 3 [.int .i64],(.own 17000001))]),(134,.v false [(.int .i64,.nil)]),(135,.v false [(.int .i64,.nil)])],[],[17000000,17000001]⟩
def Ah5:List (Ex×Sk):=[((.exit 2),⟨[(5,.v false [(.sl 3 [.int .i64],(.own 17000000))])],[],[17000000]⟩)]
def Alw:Sk:=⟨[(0,.v false [(.sl 3 [.int .i64],.ro)]),(5,.v false [(.sl 3 [.int .i64],(.own 8000000))]),(6,.v false [(.sl 3 [.int .i64],(.own 8000001))]),(7,.v false [(.int .i64,.nil)]),(8,.v false [(.int .i64,.nil)]),(9,.v false [(.int .i64,.nil)]),(10,.v false [(.int .i64,.nil)]),(11,.v false [(.int .i64,.nil)]),(12,.v false [(.int .i64,.nil)]),(13,.v false [(.int .i64,.nil)]),(14,.v false [(.int .i64,.nil)]),(15,.v false [(.int .i64,.nil)])],[],[8000000,8000001]⟩
def Alx:List (Ex×Sk):=[((.exit 0),⟨[(0,.v false [(.sl 3 [.int .i64],.ro)]),(5,.v false [(.sl 3 [.int .i64],(.own 8000000))]),(7,.v false [(.int .i64,.nil)]),(8,.v false [(.int .i64,.nil)]),(9,.v false [(.int .i64,.nil)]),(10,.v false [(.int .i64,.nil)]),(11,.v false [(.int .i64,.nil)]),(12,.v false [(.int .i64,.nil)]),(13,.v false [(.int .i64,.nil)]),(14,.v false [(.int .i64,.nil)])],[],[8000000]⟩)]
def Rm:G5:=fun i st=>cond (Nat.beq i 7) (lam Alw 8000000 Alx Ip st) <| cond (Nat.beq i 16) (lam Ah4 17000000 Ah5 H3 st) <| .fail
theorem A20 (cx:Cx) (hp:cx.pin.length<=0):Ee Tryz.prog cx Tryz.f306.ntmps Rm (Bd Tryz.f306 0):=Fp Afw hp (Ds (by kernel_rfl:B5 (Bd Tryz.f306 0)=[]) trivial) (by kernel_rfl) (fun d=>(by kernel_rfl:bod (D7 Rl) 0 Tryz.f306.ntmps Rm (Bd Tryz.f306 0) Alw 8000000 Alx d=Ip d))
theorem Az5 (cx:Cx) (hp:cx.pin.length<=0):Ee Tryz.prog cx Tryz.f306.ntmps Rm (Bd Tryz.f306 1):=Fp Afw hp (Ds (by kernel_rfl:B5 (Bd Tryz.f306 1)=[]) trivial) (by kernel_rfl) (fun d=>(by kernel_rfl:bod (D7 Rl) 0 Tryz.f306.ntmps Rm (Bd Tryz.f306 1) Ah4 17000000 Ah5 d=H3 d))
theorem A93:Fq 306 At5:=Oy Afw Tryz.func306 (by kernel_rfl) (by kernel_rfl) (fun cx b hp hb=>Ds (by kernel_rfl:B5 (Tryz.f306.body.getD .skip)=[Bd Tryz.f306 0,Bd Tryz.f306 1]) ⟨A20 cx hp,Az5 cx hp,trivial⟩ b hb) (fun d=>(by kernel_rfl:Ig (D7 Rl) 0 Rm Tryz.f306 .plain (mkA [g_6,g_0] d)=(W3 d.1 d.2.1).run fun r=>some ([rv g_6 r],[])))
def W4:Au:=As [g_6,g_0] (fun d=>(W5 d.1 d.2.1).val) fun r=>([rv g_6 r.1,rv g_0 r.2],[])
theorem Afx:Fn Tryz.prog 301 .view W4:=Df [Fz 306 At5] ⟨A93,trivial⟩ ⟨[(0,.v false [(.sl 3 [.int .i64],.rd)]),(1,.v false [(.sl 5 [.int .u8],.ro)])],[],[]⟩ 2000000 [((.exit 0),⟨[(0,.v false [(.sl 3 [.int .i64],.rd)]),(1,.v false [(.sl 5 [.int .u8],.ro)])],[],[]⟩)] 1 G3 Tryz.func301 0
def Ayb:Au:=As [Bau,g_0] (fun d=>(Aj1 d.1 d.2.1).val) (Fo Bau)
theorem Bbr:Fq 288 Ayb:=mkF [Fz 300 Ao0,Fz 95 Cz,Fz 122 Hj,(301,.view,W4)] ⟨Aya,Cr,Hc,Afx,trivial⟩ Tryz.func288 0
def Bg9:Au:=As [g_3] (fun d=>(A5o d.1).val) (Fo g_0)
theorem Boj:Fq 302 Bg9:=Df [Fz 26 B7,Fz 123 Lf] ⟨By,Ko,trivial⟩ ⟨[(0,.v false [(.int .i64,.nil)]),(3,.v false [(.sl 5 [.int .u8],(.own 5000000))])],[],[5000000]⟩ 5000000 [((.exit 0),⟨[(0,.v false [(.int .i64,.nil)]),(3,.v false [(.sl 5 [.int .u8],(.own 5000000))])],[],[5000000]⟩)] 4 Rn Tryz.func302 0
def Ar6:Au:=As [g_6] (fun d=>(Acy d.1).val) (Fo g_0)
theorem A5p:Fq 303 Ar6:=Df [Fz 123 Lf] ⟨Ko,trivial⟩ ⟨[(3,.v false [(.sl 5 [.int .u8],(.own 4000000))]),(7,.v false [(.sl 3 [.int .i64],.ro)]),(8,.v false [(.int .i64,.nil)]),(9,.v false [(.int .i64,.nil)])],[],[4000000]⟩ 4000000 [((.exit 0),⟨[(3,.v false [(.sl 5 [.int .u8],(.own 4000000))])],[],[4000000]⟩)] 3 Js Tryz.func303 0
def Ayc:Au:=As [Bau] (fun d=>(Aj2 d.1).val) (Fo g_0)
theorem Bbs:Fq 287 Ayc:=mkF [Fz 300 Ao0,Fz 302 Bg9,Fz 122 Hj,(301,.view,W4),Fz 303 Ar6] ⟨Aya,Boj,Hc,Afx,A5p,trivial⟩ Tryz.func287 0
def A5q:Au:=As [g_0] (fun d=>(A5r d.1).val) (Fo g_0)
theorem Bbt:Fq 264 A5q:=mkF [Fz 289 Ax8,Fz 288 Ayb,Fz 287 Ayc] ⟨Bbo,Bbr,Bbs,trivial⟩ Tryz.func264 0
def At6:Au:=As [g_0] (fun d=>(Afy d.1).val) (Fo g_0)
theorem A94:Fq 263 At6:=Df [Fz 95 Cz,Fz 264 A5q] ⟨Cr,Bbt,trivial⟩ ⟨[(3,.v false [(.sl 5 [.int .u8],(.own 7000000))])],[],[7000000]⟩ 7000000 [((.exit 0),⟨[(3,.v false [(.sl 5 [.int .u8],(.own 7000000))])],[],[7000000]⟩)] 6 Hq Tryz.func263 0
def A21:Au:=As [g_0,Bte] (fun d=>(Ao2 d.1 d.2.1).val) (Fo g_0)
theorem Bfm:Fq 265 A21:=Df [] trivial ⟨[(1,.v false [(.int .u8,.nil)]),(5,.v false [(.sl 5 [.int .u8],(.own 4000000))]),(9,.v false [(.sl 5 [.int .u8],.ro)]),(10,.v false [(.int .i64,.nil)]),(11,.v false [(.int .i64,.nil)])],[],[4000000]⟩ 4000000 [((.exit 0),⟨[(5,.v false [(.sl 5 [.int .u8],(.own 4000000))])],[],[4000000]⟩)] 3 Nx Tryz.func265 0
def Zu:Au:=As [g_0,g_0] (fun d=>(Az6 d.1 d.2.1).val) (Fo g_0)
theorem Ab3:Fq 229 Zu:=mkF [Fz 263 At6,Fz 265 A21,Fz 122 Hj,Fz 264 A5q] ⟨A94,Bfm,Hc,Bbt,trivial⟩ Tryz.func229 0
def A22:Au:=As [g_0,g_3] (fun d=>(Ao3 d.1 d.2.1).val) (Fo g_0)
theorem Bfn:Fq 175 A22:=mkF [Fz 26 B7,Fz 123 Lf,Fz 229 Zu,Fz 95 Cz] ⟨By,Ko,Ab3,Cr,trivial⟩ Tryz.func175 0
def Az7:Au:=As [g_5] (fun d=>(Az8 d.1).val) fun r=>([rv g_5 r.1,rv g_0 r.2],[])
theorem A7x:Fq 100 Az7:=mkF [Fz 95 Cz,Fz 35 Aog,Fz 175 A22] ⟨Cr,Ax3,Bfn,trivial⟩ Tryz.func100 0
def Ayd:Au:=As [g_0,Fg] (fun d=>(Aj3 d.1 d.2.1).val) (Fo g_0)
theorem Bbu:Fq 177 Ayd:=mkF [Fz 27 H2,Fz 95 Cz,Fz 123 Lf] ⟨Hx,Cr,Ko,trivial⟩ Tryz.func177 0
def W6:Au:=As [Fg,g_3,g_0,g_0,g_3] (fun d=>(Afz d.1 d.2.1 d.2.2.1 d.2.2.2.1 d.2.2.2.2.1).val) (Fo g_0)
theorem Acz:Fq 103 W6:=mkF [Fz 27 H2,Fz 26 B7,Fz 118 Ha,Fz 177 Ayd,Fz 123 Lf,Fz 122 Hj] ⟨Hx,By,Hb,Bbu,Ko,Hc,trivial⟩ Tryz.func103 0
def Aly:Au:=As [g_0,g_0] (fun d=>(A5s d.1 d.2.1).val) (Fo g_0)
theorem Ao4:Fq 176 Aly:=mkF [Fz 229 Zu,Fz 95 Cz] ⟨Ab3,Cr,trivial⟩ Tryz.func176 0
def Az9:Au:=As [g_8,Fg,g_3,g_0,g_0,g_3] (fun d=>(A0a d.1 d.2.1 d.2.2.1 d.2.2.2.1 d.2.2.2.2.1 d.2.2.2.2.2.1).val) (Fo g_0)
theorem A7y:Fq 101 Az9:=mkF [Fz 103 W6,Fz 34 Ahz,Fz 176 Aly] ⟨Acz,Aof,Ao4,trivial⟩ Tryz.func101 0
def A0b:Au:=As [g_0,g_0] (fun d=>(A0c d.1 d.2.1).val) (Fo Bil)
theorem A7z:Fq 102 A0b:=mkF [Fz 95 Cz] ⟨Cr,trivial⟩ Tryz.func102 0
def Af0:Au:=As [g_0] (fun d=>(Af1 d.1).val) (Fo Bil)
theorem Ar7:Fq 104 Af0:=mkF [Fz 95 Cz] ⟨Cr,trivial⟩ Tryz.func104 0
def At7:Au:=As [Lu,g_3,Fg,F9] (fun d=>(Af2 d.1 d.2.1 d.2.2.1 d.2.2.2.1).val) fun r=>([rv Lu r.1,rv Asm r.2.1,rv Asn r.2.2],[])
theorem A95:Fn Tryz.prog 29 (.lend [2]) At7:=mkF [Fz 99 Aoy,Fz 100 Az7,Fz 101 Az9,Fz 95 Cz,Fz 103 W6,Fz 102 A0b,Fz 104 Af0] ⟨Ax7,A7x,A7y,Cr,Acz,A7z,Ar7,trivial⟩ Tryz.func29 1
def A70:Au:=As [g_3,g_3] (fun d=>(At8 d.1 d.2.1).val) (Fo g_1)
theorem Bi1:Fq 178 A70:=mkF [Fz 26 B7] ⟨By,trivial⟩ Tryz.func178 0
def A0d:Au:=As [g_0,g_0] (fun d=>(A0e d.1 d.2.1).val) (Fo g_3)
theorem A71:Fq 230 A0d:=Df [] trivial ⟨[(0,.v false [(.sl 5 [.int .u8],.ro)]),(1,.v false [(.sl 5 [.int .u8],.ro)]),(5,.v false [(.int .i64,.nil)]),(13,.v false [(.int .i64,.nil)]),(14,.v false [(.int .i64,.nil)])],[],[]⟩ 6000000 [((.exit 0),⟨[(5,.v false [(.int .i64,.nil)])],[],[]⟩)] 5 W7 Tryz.func230 0
def Abh:Au:=As [g_0,g_0] (fun d=>(Aj4 d.1 d.2.1).val) (Fo g_1)
theorem Af3:Fq 179 Abh:=mkF [Fz 230 A0d] ⟨A71,trivial⟩ Tryz.func179 0
def A72:Au:=As [g_8,g_3,Fg,F9] (fun d=>(At9 d.1 d.2.1 d.2.2.1 d.2.2.2.1).val) (Fo g_3)
theorem Bi2:Fq 105 A72:=mkF [Fz 34 Ahz,Fz 26 B7,Fz 27 H2,Fz 39 Iy,Fz 178 A70,Fz 101 Az9,Fz 179 Abh] ⟨Aof,By,Hx,I9,Bi1,A7y,Af3,trivial⟩ Tryz.func105 0
def Aj5:Au:=As [g_0,g_0] (fun d=>(Abi d.1 d.2.1).val) (Fo g_0)
theorem Aua:Fq 185 Aj5:=mkF [Fz 229 Zu] ⟨Ab3,trivial⟩ Tryz.func185 0
def A23:Au:=As [g_0,g_0,g_3] (fun d=>(Ao5 d.1 d.2.1 d.2.2.1).val) fun r=>([rv g_0 r.1,rv g_1 r.2],[])
theorem Bfo:Fq 236 A23:=Df [Fz 26 B7,Fz 122 Hj,Fz 229 Zu,Fz 95 Cz] ⟨By,Hc,Ab3,Cr,trivial⟩ ⟨[(0,.v false [(.sl 5 [.int .u8],.ro)]),(1,.v false [(.sl 5 [.int .u8],.ro)]),(2,.v false [(.int .i64,.nil)]),(8,.v false [(.sl 5 [.int .u8],(.own 7000000))]),(9,.v false [(.sl 5 [.int .u8],(.own 7000001))]),(10,.v false [(.int .i64,.nil)])],[],[7000000,7000001]⟩ 7000000 [((.exit 0),⟨[(2,.v false [(.int .i64,.nil)]),(8,.v false [(.sl 5 [.int .u8],(.own 7000000))])],[],[7000000]⟩)] 6 Ny Tryz.func236 0
def W8:Au:=As [g_0,g_7] (fun d=>(Ao6 d.1 d.2.1).val) (Fo g_0)
theorem Abj:Fq 184 W8:=mkF [Fz 236 A23] ⟨Bfo,trivial⟩ Tryz.func184 0
def Ac0:Au:=As [g_0] (fun d=>(Ac1 d.1).val) (Fo g_0)
theorem Alz:Fq 111 Ac0:=mkF [Fz 38 Ab1,Fz 185 Aj5,Fz 184 W8] ⟨Ads,Aua,Abj,trivial⟩ Tryz.func111 0
def Ac2:Au:=As [g_3,g_0,g_0,g_3,g_0] (fun d=>(Ac3 d.1 d.2.1 d.2.2.1 d.2.2.2.1 d.2.2.2.2.1).val) (Fo g_0)
theorem Al0:Fq 112 Ac2:=mkF [Fz 26 B7,Fz 118 Ha,Fz 123 Lf,Fz 122 Hj] ⟨By,Hb,Ko,Hc,trivial⟩ Tryz.func112 0
def A73:Au:=As [g_0,g_3,g_0,g_0,g_3,g_0] (fun d=>(Aub d.1 d.2.1 d.2.2.1 d.2.2.2.1 d.2.2.2.2.1 d.2.2.2.2.2.1).val) (Fo g_0)
theorem Bi3:Fq 180 A73:=mkF [Fz 111 Ac0,Fz 112 Ac2,Fz 176 Aly] ⟨Alz,Al0,Ao4,trivial⟩ Tryz.func180 0
def Aye:Au:=As [g_0,F9] (fun d=>(Aj6 d.1 d.2.1).val) (Fo g_1)
theorem Bbv:Fq 106 Aye:=mkF [Fz 39 Iy,Fz 180 A73,Fz 179 Abh] ⟨I9,Bi3,Af3,trivial⟩ Tryz.func106 0
def Auc:Au:=As [Fg] (fun d=>(Af4 d.1).val) (Fo I5)
theorem A96:Fq 181 Auc:=mkF [] trivial Tryz.func181 0
def Ayf:Au:=As [g_0,g_0,g_0] (fun d=>(Aj7 d.1 d.2.1 d.2.2.1).val) (Fo g_0)
theorem Bbw:Fq 234 Ayf:=mkF [Fz 38 Ab1,Fz 118 Ha,Fz 122 Hj,Fz 185 Aj5] ⟨Ads,Hb,Hc,Aua,trivial⟩ Tryz.func234 0
def Aud:Au:=As [g_0] (fun d=>(Af5 d.1).val) (Fo g_0)
theorem A97:Fq 233 Aud:=mkF [Fz 184 W8] ⟨Abj,trivial⟩ Tryz.func233 0
def A74:Au:=As [g_0,g_3] (fun d=>(Aue d.1 d.2.1).val) (Fo g_0)
theorem Bi4:Fq 235 A74:=Df [Fz 26 B7,Fz 95 Cz,Fz 184 W8] ⟨By,Cr,Abj,trivial⟩ ⟨[(1,.v false [(.int .i64,.nil)]),(5,.v false [(.sl 5 [.int .u8],(.own 6000000))]),(6,.v false [(.int .i64,.nil)])],[],[6000000]⟩ 6000000 [((.exit 0),⟨[(5,.v false [(.sl 5 [.int .u8],(.own 6000000))])],[],[6000000]⟩)] 5 Qi Tryz.func235 0
def Auf:Au:=As [g_0,g_0,g_0,g_3] (fun d=>(Af6 d.1 d.2.1 d.2.2.1 d.2.2.2.1).val) (Fo g_0)
theorem A98:Fq 183 Auf:=mkF [Fz 234 Ayf,Fz 233 Aud,Fz 235 A74] ⟨Bbw,A97,Bi4,trivial⟩ Tryz.func183 0
def A24:Au:=As [] (fun d=>(Ao7).val) (Fo M5)
theorem Bfp:Fq 266 A24:=mkF [] trivial Tryz.func266 0
def Ah6:Au:=As [g_3,g_0] (fun d=>(Ah7 d.1 d.2.1).val) (Fo Ox)
theorem Ao8:Fq 232 Ah6:=mkF [Fz 26 B7,Fz 95 Cz,Fz 266 A24] ⟨By,Cr,Bfp,trivial⟩ Tryz.func232 0
def Ayg:Au:=As [g_3,g_0,g_0] (fun d=>(Abk d.1 d.2.1 d.2.2.1).val) (Fo Ik)
theorem Bbx:Fq 182 Ayg:=mkF [Fz 231 S8,Fz 118 Ha,Fz 95 Cz,Fz 232 Ah6] ⟨Ue,Hb,Cr,Ao8,trivial⟩ Tryz.func182 0
def Ayh:Au:=As [g_0,g_3,Fg,F9] (fun d=>(Aj8 d.1 d.2.1 d.2.2.1 d.2.2.2.1).val) (Fo Lc)
theorem Bby:Fq 108 Ayh:=mkF [Fz 38 Ab1,Fz 26 B7,Fz 27 H2,Fz 39 Iy,Fz 95 Cz,Fz 181 Auc,Fz 183 Auf,Fz 182 Ayg] ⟨Ads,By,Hx,I9,Cr,A96,A98,Bbx,trivial⟩ Tryz.func108 0
def Ayi:Au:=As [g_9,Lc] (fun d=>(Abl d.1 d.2.1).val) fun r=>([rv g_9 r.1,rv g_3 r.2],[])
theorem Bbz:Fq 109 Ayi:=mkF [Fz 96 Abb,Fz 36 Ah1,Fz 117 Wy,Fz 107 Wz,Fz 15 Aoi,Fz 174 Nt] ⟨Afj,Aot,Abe,Abf,Att,Pu,trivial⟩ Tryz.func109 0
def A0f:Au:=As [g_0,g_0,g_0] (fun d=>(A0g d.1 d.2.1 d.2.2.1).val) (Fo Bil)
theorem A75:Fq 110 A0f:=mkF [Fz 95 Cz] ⟨Cr,trivial⟩ Tryz.func110 0
def Ac4:Au:=As [g_3] (fun d=>(Ac5 d.1).val) (Fo g_0)
theorem Al1:Fq 237 Ac4:=mkF [Fz 26 B7,Fz 123 Lf] ⟨By,Ko,trivial⟩ Tryz.func237 0
def Adt:Au:=As [g_3,g_0,g_3,g_3] (fun d=>(Ao9 d.1 d.2.1 d.2.2.1 d.2.2.2.1).val) (Fo g_0)
theorem Aj9:Fq 239 Adt:=mkF [Fz 231 S8,Fz 118 Ha,Fz 26 B7,Fz 123 Lf,Fz 122 Hj] ⟨Ue,Hb,By,Ko,Hc,trivial⟩ Tryz.func239 0
def Ayj:Au:=As [g_0,g_0,g_3] (fun d=>(Aka d.1 d.2.1 d.2.2.1).val) (Fo g_0)
theorem Bb0:Fq 307 Ayj:=mkF [Fz 26 B7,Fz 122 Hj,Fz 123 Lf,Fz 229 Zu] ⟨By,Hc,Ko,Ab3,trivial⟩ Tryz.func307 0
def A25:Au:=As [g_0,g_0,g_3] (fun d=>(Apa d.1 d.2.1 d.2.2.1).val) (Fo g_0)
theorem Bfq:Fq 305 A25:=Df [Fz 26 B7,Fz 307 Ayj,Fz 95 Cz] ⟨By,Bb0,Cr,trivial⟩ ⟨[(0,.v false [(.sl 5 [.int .u8],.ro)]),(1,.v false [(.sl 5 [.int .u8],.ro)]),(2,.v false [(.int .i64,.nil)]),(7,.v false [(.sl 5 [.int .u8],(.own 6000000))]),(8,.v false [(.int .i64,.nil)])],[],[6000000]⟩ 6000000 [((.exit 0),⟨[(2,.v false [(.int .i64,.nil)]),(7,.v false [(.sl 5 [.int .u8],(.own 6000000))])],[],[6000000]⟩)] 5 Nz Tryz.func305 0
def A5t:Au:=As [g_0,g_0,g_0] (fun d=>(A5u d.1 d.2.1 d.2.2.1).val) (Fo g_0)
theorem Bb1:Fq 291 A5t:=Df [Fz 305 A25] ⟨Bfq,trivial⟩ ⟨[(2,.v false [(.sl 5 [.int .u8],.ro)]),(7,.v false [(.sl 5 [.int .u8],(.own 6000000))]),(28,.v false [(.sl 5 [.int .u8],(.own 6000001))]),(29,.v false [(.int .i64,.nil)]),(30,.v false [(.int .i64,.nil)])],[],[6000000,6000001]⟩ 6000000 [((.exit 0),⟨[(7,.v false [(.sl 5 [.int .u8],(.own 6000000))])],[],[6000000]⟩)] 5 V5 Tryz.func291 0
def N0:Au:=As [g_3,F9] (fun d=>(Af7 d.1 d.2.1).val) (Fo g_0)
theorem Pw:Fq 190 N0:=mkF [Fz 231 S8,Fz 31 O0,Fz 39 Iy,Fz 239 Adt,Fz 122 Hj] ⟨Ue,Qh,I9,Aj9,Hc,trivial⟩ Tryz.func190 0
def Bb2:Au:=As [g_0,g_3,g_0,g_3,g_3,g_3,g_0] (fun d=>(A0h d.1 d.2.1 d.2.2.1 d.2.2.2.1 d.2.2.2.2.1 d.2.2.2.2.2.1 d.2.2.2.2.2.2.1).val) fun r=>([rv F9 r.1,rv g_1 r.2],[])
theorem Blt:Fq 270 Bb2:=mkF [Fz 95 Cz,Fz 231 S8,Fz 31 O0,Fz 39 Iy,Fz 239 Adt,Fz 291 A5t,Fz 190 N0,Fz 176 Aly] ⟨Cr,Ue,Qh,I9,Aj9,Bb1,Pw,Ao4,trivial⟩ Tryz.func270 0
def A26:Au:=As [Ox,g_3,g_0,g_3,g_0] (fun d=>(Apb d.1 d.2.1 d.2.2.1 d.2.2.2.1 d.2.2.2.2.1).val) fun r=>([rv Ox r.1,rv F9 r.2.1,rv g_3 r.2.2],[])
theorem Bfr:Fq 243 A26:=mkF [Fz 262 Adr,Fz 245 Afm,Fz 270 Bb2] ⟨Ajw,Ah0,Blt,trivial⟩ Tryz.func243 0
def Af8:Au:=As [Ik,g_3,g_0] (fun d=>(Af9 d.1 d.2.1 d.2.2.1).val) fun r=>([rv Ik r.1,rv F9 r.2.1,rv g_3 r.2.2],[])
theorem Ar8:Fq 194 Af8:=mkF [Fz 227 Le,Fz 196 Mi,Fz 243 A26] ⟨L7,M9,Bfr,trivial⟩ Tryz.func194 0
def A5v:Au:=As [Ik] (fun d=>(A5w d.1).val) fun r=>([rv Ik r.1,rv F9 r.2.1,rv g_3 r.2.2],[])
theorem Bb3:Fq 186 A5v:=mkF [Fz 196 Mi,Fz 227 Le,Fz 237 Ac4,Fz 194 Af8] ⟨M9,L7,Al1,Ar8,trivial⟩ Tryz.func186 0
def Adu:Au:=As [Ik,F9] (fun d=>(Apc d.1 d.2.1).val) (Fo Bil)
theorem Akb:Fq 187 Adu:=mkF [Fz 190 N0,Fz 102 A0b] ⟨Pw,A7z,trivial⟩ Tryz.func187 0
def Ayk:Au:=As [Lc] (fun d=>(Abm d.1).val) fun r=>([rv Lc r.1,rv Asm r.2.1,rv Asn r.2.2],[])
theorem Bb4:Fq 113 Ayk:=mkF [Fz 174 Nt,Fz 117 Wy,Fz 186 A5v,Fz 187 Adu] ⟨Pu,Abe,Bb3,Akb,trivial⟩ Tryz.func113 0
def Akc:Au:=As [g_9,g_3,Lc] (fun d=>(Akd d.1 d.2.1 d.2.2.1).val) fun r=>([rv g_9 r.1,rv g_1 r.2],[])
theorem Aug:Fq 114 Akc:=mkF [Fz 96 Abb,Fz 36 Ah1,Fz 174 Nt] ⟨Afj,Aot,Pu,trivial⟩ Tryz.func114 0
def Al2:Au:=As [Lu,g_3,Fg,F9] (fun d=>(Zv d.1 d.2.1 d.2.2.1 d.2.2.2.1).val) fun r=>([rv Lu r.1,rv Asm r.2.1,rv Asn r.2.2],[])
theorem A27:Fn Tryz.prog 30 (.lend [2]) Al2:=mkF [Fz 105 A72,Fz 106 Aye,Fz 107 Wz,Fz 108 Ayh,Fz 109 Ayi,Fz 103 W6,Fz 110 A0f,Fz 111 Ac0,Fz 112 Ac2,Fz 95 Cz,Fz 44 Hi,Fz 113 Ayk,Fz 114 Akc] ⟨Bi2,Bbv,Abf,Bby,Bbz,Acz,A75,Alz,Al0,Cr,Hp,Bb4,Aug,trivial⟩ Tryz.func30 1
def A28:Au:=As [M5,g_3] (fun d=>(Apd d.1 d.2.1).val) (Fo g_1)
theorem Bfs:Fq 290 A28:=mkF [Fz 272 Atv,Fz 26 B7,Fz 293 Aon] ⟨A2q,By,Ax6,trivial⟩ Tryz.func290 0
def A29:Au:=As [M5,g_3] (fun d=>(Ape d.1 d.2.1).val) fun r=>([rv M5 r.1,rv g_1 r.2],[])
theorem Bft:Fq 267 A29:=Df [Fz 286 Aju,Fz 290 A28] ⟨Ats,Bfs,trivial⟩ ⟨[(1,.v false [(.int .i64,.nil)]),(2,.box 2 0),(4,.box 4 0),(6,.box 6 0),(7,.v false [(.int .i64,.nil)])],[(2,[(.int .i64,.nil),(.sl 3 [.int .i64],.ro)]),(4,[(.int .i64,.nil),(.sl 3 [.int .i64],(.own 6000000))]),(6,[(.int .i64,.nil),(.sl 3 [.int .i64],(.own 6000001))])],[6000000,6000001]⟩ 6000000 [((.exit 0),⟨[(1,.v false [(.int .i64,.nil)]),(2,.box 2 0),(4,.box 4 0),(6,.box 6 0)],[(2,[(.int .i64,.nil),(.sl 3 [.int .i64],.ro)]),(4,[(.int .i64,.nil),(.sl 3 [.int .i64],(.own 6000000))]),(6,[(.int .i64,.nil),(.sl 3 [.int .i64],(.own 6000001))])],[6000000,6000001]⟩)] 5 N3 Tryz.func267 0
def A3a:Au:=As [g_0,g_3,F9] (fun d=>(Apf d.1 d.2.1 d.2.2.1).val) fun r=>([rv g_0 r.1,rv g_1 r.2],[])
theorem Bfu:Fq 268 A3a:=mkF [Fz 190 N0,Fz 176 Aly,Fz 179 Abh,Fz 239 Adt,Fz 291 A5t] ⟨Pw,Ao4,Af3,Aj9,Bb1,trivial⟩ Tryz.func268 0
def A3b:Au:=As [Ox,g_3,F9] (fun d=>(Apg d.1 d.2.1 d.2.2.1).val) fun r=>([rv Ox r.1,rv g_0 r.2.1,rv g_3 r.2.2],[])
theorem Bfv:Fq 238 A3b:=mkF [Fz 262 Adr,Fz 245 Afm,Fz 190 N0,Fz 267 A29,Fz 268 A3a] ⟨Ajw,Ah0,Pw,Bft,Bfu,trivial⟩ Tryz.func238 0
def Auh:Au:=As [Ik,g_3,F9] (fun d=>(Aga d.1 d.2.1 d.2.2.1).val) fun r=>([rv Ik r.1,rv g_0 r.2.1,rv g_3 r.2.2],[])
theorem A99:Fq 188 Auh:=mkF [Fz 227 Le,Fz 196 Mi,Fz 26 B7,Fz 31 O0,Fz 39 Iy,Fz 230 A0d,Fz 232 Ah6,Fz 238 A3b] ⟨L7,M9,By,Qh,I9,A71,Ao8,Bfv,trivial⟩ Tryz.func188 0
def A3c:Au:=As [Ik,g_3] (fun d=>(Aph d.1 d.2.1).val) fun r=>([rv g_0 r.1,rv g_1 r.2],[])
theorem Bfw:Fq 189 A3c:=mkF [Fz 196 Mi,Fz 95 Cz] ⟨M9,Cr,trivial⟩ Tryz.func189 0
def Api:Au:=As [I5,Fg] (fun d=>(Apj d.1 d.2.1).val) (Fo g_3)
theorem Ayl:Fq 240 Api:=Df [] trivial ⟨[(3,.box 3 0),(8,.v false [(.sl 188 h_4,.ro)]),(9,.v false [(.int .i64,.nil)]),(10,.v false [(.int .i64,.nil)])],[(3,[(.int .i64,.nil),(.int .i64,.nil)])],[]⟩ 3000000 [(.ret,⟨[(4,.v false [(.int .i64,.nil)])],[],[]⟩),((.exit 0),⟨[],[],[]⟩)] 2 Ro Tryz.func240 0
def A3d:Au:=As [I5,g_3,Fg,g_0] (fun d=>(Adv d.1 d.2.1 d.2.2.1 d.2.2.2.1).val) fun r=>([rv I5 r.1,rv g_1 r.2],[])
theorem Bfx:Fq 191 A3d:=mkF [Fz 228 Pt,Fz 240 Api,Fz 197 Abc,Fz 26 B7,Fz 44 Hi] ⟨S7,Ayl,Afn,By,Hp,trivial⟩ Tryz.func191 0
def Bb5:Au:=As [Ik] (fun d=>(A0i d.1).val) fun r=>([rv Ik r.1,rv g_1 r.2],[])
theorem Blu:Fq 269 Bb5:=mkF [Fz 227 Le,Fz 196 Mi,Fz 184 W8,Fz 232 Ah6] ⟨L7,M9,Abj,Ao8,trivial⟩ Tryz.func269 0
def Ar9:Au:=As [Ik,g_3,g_0] (fun d=>(Ac6 d.1 d.2.1 d.2.2.1).val) fun r=>([rv Ik r.1,rv g_3 r.2],[])
theorem A5x:Fq 241 Ar9:=mkF [Fz 227 Le,Fz 196 Mi,Fz 26 B7,Fz 237 Ac4,Fz 44 Hi,Fz 269 Bb5] ⟨L7,M9,By,Al1,Hp,Blu,trivial⟩ Tryz.func241 0
def Asa:Au:=As [Lc,g_3,g_0] (fun d=>(Va d.1 d.2.1 d.2.2.1).val) fun r=>([rv Lc r.1,rv Asm r.2.1,rv Asn r.2.2],[])
theorem A5y:Fn Tryz.prog 192 (.lend [2]) Asa:=mkF [Fz 241 Ar9,Fz 95 Cz,Fz 186 A5v,Fz 187 Adu] ⟨A5x,Cr,Bb3,Akb,trivial⟩ Tryz.func192 1
def Ab4:Au:=As [I5,g_3] (fun d=>(Mk d.1 d.2.1).val) (Fo I5)
def Ml:Fns:=[Fz 228 Pt]
theorem Ab5:CfgOk Tryz.prog (D7 Ml):=Gz Nm J3 (show Lp Tryz.prog Ml from⟨S7,trivial⟩)
def W9:Sk:=⟨[(1,.v false [(.int .i64,.nil)]),(4,.box 4 0),(5,.box 5 0),(13,.v false [(.sl 188 h_4,(.own 4000000))]),(14,.v false [(.int .i64,.nil)]),(15,.v false [(.int .i64,.nil)])],[(4,[(.int .i64,.nil),(.int .i64,.nil),(.sl 188 h_4,(.own 4000001))]),(5,[(.int .i64,.nil),(.int .i64,.nil),(.sl 188 h_4,(.own 4000002))])],[4000000,4000001,4000002]⟩
def Xa:List (Ex×Sk):=[((.exit 0),⟨[(4,.box 4 0),(5,.box 5 0)],[(4,[(.int .i64,.nil),(.int .i64,.nil),(.sl 188 h_4,(.own 4000000))]),(5,[(.int .i64,.nil),(.int .i64,.nil),(.sl 188 h_4,(.own 4000001))])],[4000000,4000001]⟩)]
def Rp:G5:=fun i st=>cond (Nat.beq i 3) (lam W9 4000000 Xa Fr st) <| .fail
theorem Al3 (cx:Cx) (hp:cx.pin.length<=0):Ee Tryz.prog cx Tryz.f242.ntmps Rp (Bd Tryz.f242 0):=Bb6 Ab5 hp (Ds (by kernel_rfl:B5 (Bd Tryz.f242 0)=[]) trivial) 13 15 4500000 (by kernel_rfl) (by kernel_rfl) (fun d=>(by kernel_rfl:Bi5 (D7 Ml) 0 Tryz.f242.ntmps Rp (Bd Tryz.f242 0) W9 4000000 Xa 13 15 4500000 d=Fr d))
theorem Asl:Fq 242 Ab4:=Oy Ab5 Tryz.func242 (by kernel_rfl) (by kernel_rfl) (fun cx b hp hb=>Ds (by kernel_rfl:B5 (Tryz.f242.body.getD .skip)=[Bd Tryz.f242 0]) ⟨Al3 cx hp,trivial⟩ b hb) (fun d=>(by kernel_rfl:Ig (D7 Ml) 0 Rp Tryz.f242 .plain (mkA [I5,g_3] d)=(Mk d.1 d.2.1).run fun r=>some ([rv I5 r],[])))
def A76:Au:=As [I5,g_3,Fg,g_0] (fun d=>(Ab6 d.1 d.2.1 d.2.2.1 d.2.2.2.1).val) fun r=>([rv I5 r.1,rv g_1 r.2],[])
theorem Bi6:Fq 193 A76:=mkF [Fz 197 Abc,Fz 26 B7,Fz 27 H2,Fz 118 Ha,Fz 228 Pt,Fz 242 Ab4,Fz 240 Api,Fz 95 Cz] ⟨Afn,By,Hx,Hb,S7,Asl,Ayl,Cr,trivial⟩ Tryz.func193 0
def Aui:Au:=As [Lc,g_3,Fg,F9,g_0] (fun d=>(Xb d.1 d.2.1 d.2.2.1 d.2.2.2.1 d.2.2.2.2.1).val) fun r=>([rv Lc r.1,rv Asm r.2.1,rv Asn r.2.2.1,rv g_1 r.2.2.2],[])
theorem Baa:Fq 115 Aui:=mkF [Fz 174 Nt,Fz 117 Wy,Fz 27 H2,Fz 188 Auh,Fz 189 A3c,Fz 190 N0,Fz 110 A0f,Fz 95 Cz,Fz 191 A3d,(192,(.lend [2]),Asa),Fz 193 A76,Fz 194 Af8,Fz 187 Adu] ⟨Pu,Abe,Hx,A99,Bfw,Pw,A75,Cr,Bfx,A5y,Bi6,Ar8,Akb,trivial⟩ Tryz.func115 0
def Adj:Au:=As [Lu,g_3,Fg,F9] (fun d=>(Tz d.1 d.2.1 d.2.2.1 d.2.2.2.1).val) fun r=>([rv Lu r.1,rv Asm r.2.1,rv Asn r.2.2],[])
theorem Auj:Fn Tryz.prog 32 (.lend [2]) Adj:=mkF [Fz 107 Wz,Fz 100 Az7,Fz 99 Aoy,Fz 115 Aui,Fz 114 Akc,Fz 95 Cz,Fz 104 Af0] ⟨Abf,A7x,Ax7,Baa,Aug,Cr,Ar7,trivial⟩ Tryz.func32 1
def A3e:Au:=As [F9] (fun d=>(Apk d.1).val) (Fo g_3)
theorem Bfy:Fq 13 A3e:=mkF [Fz 41 Afr] ⟨Ar2,trivial⟩ Tryz.func13 0
def A77:Au:=As [Qq,Fg,g_3] (fun d=>(Auk d.1 d.2.1 d.2.2.1).val) fun r=>([rv Qq r.1,rv g_1 r.2],[])
theorem Bi7:Fq 33 A77:=mkF [Fz 97 Qt,Fz 98 Rg,Fz 37 Pv,Fz 116 Aj0,Fz 26 B7] ⟨Vm,U9,S9,At2,By,trivial⟩ Tryz.func33 0
def Al4:Au:=As [Lu,g_3,Fg,g_0] (fun d=>(Tb d.1 d.2.1 d.2.2.1 d.2.2.2.1).val) fun r=>([rv Lu r.1,rv Asm r.2.1,rv Asn r.2.2],[])
def Tc:Fns:=[Fz 25 Aln,Fz 9 Afp,Fz 26 B7,Fz 27 H2,Fz 28 Bbm,Fz 14 Aft,(29,(.lend [2]),At7),(30,(.lend [2]),Al2),Fz 31 O0,(32,(.lend [2]),Adj),Fz 12 Az3,Fz 13 A3e,Fz 33 A77]
theorem Al5:CfgOk Tryz.prog (D7 Tc):=Gz Nm J3 (show Lp Tryz.prog Tc from⟨A2o,Ar0,By,Hx,Bln,Ar3,A95,A27,Qh,Auj,A7s,Bfy,Bi7,trivial⟩)
def Adk:Sk:=⟨[(8,.box 8 0),(11,.box 11 0),(15,.v false [(.sl 92 h_7,(.own 18000000))]),(16,.v false [(.sl 50 h_9,(.own 18000001))]),(94,.v false [(.sl 50 h_9,(.own 18000002))]),(95,.v false [(.int .i64,.nil)]),(96,.v false [(.int .i64,.nil)])],[(8,[(.sl 22 [.sl 5 [.int .u8]],(.own 18000003)),(.sl 5 [.int .u8],(.own 18000004)),(.sl 5 [.int .u8],(.own 18000005)),(.int .i64,.nil),(.int .i64,.nil),(.sl 88 Eb,(.own 18000006)),(.sl 53 h_2,(.own 18000007))]),(11,[(.sl 22 [.sl 5 [.int .u8]],(.own 18000008)),(.sl 5 [.int .u8],(.own 18000009)),(.sl 5 [.int .u8],(.own 18000010)),(.int .i64,.nil),(.int .i64,.nil),(.sl 88 Eb,(.own 18000011)),(.sl 53 h_2,(.own 18000012))])],[18000000,18000001,18000002,18000003,18000004,18000005,18000006,18000007,18000008,18000009,18000010,18000011,18000012]⟩
def Adl:List (Ex×Sk):=[((.exit 1),⟨[(8,.box 8 0),(11,.box 11 0),(15,.v false [(.sl 92 h_7,(.own 18000000))]),(16,.v false [(.sl 50 h_9,(.own 18000001))])],[(8,[(.sl 22 [.sl 5 [.int .u8]],(.own 18000002)),(.sl 5 [.int .u8],(.own 18000003)),(.sl 5 [.int .u8],(.own 18000004)),(.int .i64,.nil),(.int .i64,.nil),(.sl 88 Eb,(.own 18000005)),(.sl 53 h_2,(.own 18000006))]),(11,[(.sl 22 [.sl 5 [.int .u8]],(.own 18000007)),(.sl 5 [.int .u8],(.own 18000008)),(.sl 5 [.int .u8],(.own 18000009)),(.int .i64,.nil),(.int .i64,.nil),(.sl 88 Eb,(.own 18000010)),(.sl 53 h_2,(.own 18000011))])],[18000000,18000001,18000002,18000003,18000004,18000005,18000006,18000007,18000008,18000009,18000010,18000011]⟩)]
def Zw:G5:=fun i st=>cond (Nat.beq i 17) (lam Adk 18000000 Adl D0 st) <| .fail
theorem Aul (cx:Cx) (hp:cx.pin.length<=0):Ee Tryz.prog cx Tryz.f8.ntmps Zw (Bd Tryz.f8 0):=Bb6 Al5 hp (Ds (by kernel_rfl:B5 (Bd Tryz.f8 0)=[]) trivial) 94 96 18500000 (by kernel_rfl) (by kernel_rfl) (fun d=>(by kernel_rfl:Bi5 (D7 Tc) 0 Tryz.f8.ntmps Zw (Bd Tryz.f8 0) Adk 18000000 Adl 94 96 18500000 d=D0 d))
theorem A3f:Fq 8 Al4:=Oy Al5 Tryz.func8 (by kernel_rfl) (by kernel_rfl) (fun cx b hp hb=>Ds (by kernel_rfl:B5 (Tryz.f8.body.getD .skip)=[Bd Tryz.f8 0]) ⟨Aul cx hp,trivial⟩ b hb) (fun d=>(by kernel_rfl:Ig (D7 Tc) 0 Zw Tryz.f8 .plain (mkA [Lu,g_3,Fg,g_0] d)=(Tb d.1 d.2.1 d.2.2.1 d.2.2.2.1).run fun r=>some ([rv Lu r.1,rv Asm r.2.1,rv Asn r.2.2],[])))
def Agb:Au:=As [g_0,g_0] (fun d=>(A0j d.1 d.2.1).val) (Fo g_1)
theorem Ah8:Fq 79 Agb:=mkF [] trivial Tryz.func79 0
def Aum:Au:=As [g_6,g_6] (fun d=>(Agc d.1 d.2.1).val) (Fo g_1)
theorem Bab:Fq 273 Aum:=Df [] trivial ⟨[(0,.v false [(.sl 3 [.int .i64],.ro)]),(1,.v false [(.sl 3 [.int .i64],.ro)]),(5,.v false [(.int .i64,.nil)])],[],[]⟩ 5000000 [(.ret,⟨[(4,.v false [(.bool,.nil)])],[],[]⟩),((.exit 0),⟨[],[],[]⟩)] 4 K4 Tryz.func273 0
def Aym:Au:=As [M5,M5] (fun d=>(Ake d.1 d.2.1).val) (Fo g_1)
theorem Bb7:Fq 247 Aym:=mkF [Fz 273 Aum] ⟨Bab,trivial⟩ Tryz.func247 0
def A3g:Au:=As [Ox,Ox] (fun d=>(Apl d.1 d.2.1).val) (Fo g_1)
theorem Bfz:Fq 199 A3g:=mkF [Fz 79 Agb,Fz 247 Aym] ⟨Ah8,Bb7,trivial⟩ Tryz.func199 0
def Aun:Au:=As [Ik,Ik] (fun d=>(Agd d.1 d.2.1).val) (Fo g_1)
theorem Bac:Fq 125 Aun:=mkF [Fz 79 Agb,Fz 199 A3g] ⟨Ah8,Bfz,trivial⟩ Tryz.func125 0
def Asb:Au:=As [I5,I5] (fun d=>(Ac7 d.1 d.2.1).val) (Fo g_1)
theorem A5z:Fq 126 Asb:=Df [Fz 79 Agb] ⟨Ah8,trivial⟩ ⟨[(2,.box 2 0),(3,.box 3 0),(5,.v false [(.int .i64,.nil)])],[(2,[(.int .i64,.nil),(.int .i64,.nil),(.sl 188 h_4,.ro)]),(3,[(.int .i64,.nil),(.int .i64,.nil),(.sl 188 h_4,.ro)])],[]⟩ 5000000 [(.ret,⟨[(4,.v false [(.bool,.nil)])],[],[]⟩),((.exit 0),⟨[],[],[]⟩)] 4 Jt Tryz.func126 0
def Auo:Au:=As [Lc,Lc] (fun d=>(Age d.1 d.2.1).val) (Fo g_1)
theorem Bad:Fq 45 Auo:=mkF [Fz 79 Agb,Fz 125 Aun,Fz 126 Asb] ⟨Ah8,Bac,A5z,trivial⟩ Tryz.func45 0
def Ayn:Au:=As [g_9,g_9] (fun d=>(Akf d.1 d.2.1).val) (Fo g_1)
theorem Bb8:Fq 16 Ayn:=Df [Fz 45 Auo] ⟨Bad,trivial⟩ ⟨[(2,.box 2 0),(3,.box 3 0),(5,.v false [(.int .i64,.nil)])],[(2,[(.int .i64,.nil),(.sl 88 Eb,.ro)]),(3,[(.int .i64,.nil),(.sl 88 Eb,.ro)])],[]⟩ 5000000 [(.ret,⟨[(4,.v false [(.bool,.nil)])],[],[]⟩),((.exit 0),⟨[],[],[]⟩)] 4 Ma Tryz.func16 0
end
end Go.Proofs.YtnbbbaplphcebaaGreat

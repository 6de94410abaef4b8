/-
  That the functions of the seat answer what the terms of text W say; nothing is assumed.
-/
import Derived.Test.YtnbbbaplphcebaaGreatW
import Derived.Test.YtnbbbaplphcebaaGreatProg
import Derived.KernelRfl
namespace Go.Proofs.YtnbbbaplphcebaaGreat
open Go.RowKit
set_option linter.unusedVariables false
set_option maxRecDepth 100000
set_option maxHeartbeats 4000000
noncomputable section
abbrev h_0:List Sh:=[.int .i64,.int .i64,.bool,.int .u8]
abbrev h_1:List Sh:=[.sl 5 [.int .u8],.int .i64,.int .i64]
abbrev h_2:List Sh:=[.int .i64,.int .i64,.int .i64,.int .i64]
abbrev h_3:List Sh:=[.sl 3 [.int .i64],.sl 5 [.int .u8],.int .i64]
abbrev h_4:List Sh:=[.int .i64,.int .i64,.sl 5 [.int .u8],.int .i64]
abbrev h_5:List Sh:=[.int .i64,.sl 5 [.int .u8],.int .i64,.int .i64,.sl 3 [.int .i64]]
abbrev h_6:List Sh:=[.int .i64,.int .i64,.sl 188 h_4]
abbrev h_7:List Sh:=[.int .i64,.int .i64,.int .i64,.sl 5 [.int .u8],.sl 5 [.int .u8],.int .i64,.int .i64,.sl 5 [.int .u8],.sl 5 [.int .u8],.int .i64,.int .i64,.int .i64]
abbrev h_8:List Sh:=[.int .i64,.int .i64,.sl 5 [.int .u8],.sl 5 [.int .u8],.int .i64,.sl 5 [.int .u8],.sl 5 [.int .u8],.int .i64,.int .i64,.sl 5 [.int .u8],.sl 5 [.int .u8]]
abbrev h_9:List Sh:=[.int .i64,.int .i64,.int .i64,.int .i64,.sl 5 [.int .u8],.sl 5 [.int .u8],.int .i64,.sl 5 [.int .u8],.sl 5 [.int .u8],.int .i64,.int .i64,.sl 5 [.int .u8],.sl 5 [.int .u8]]
abbrev Brs:List Sh:=[.int .i64,.sl 5 [.int .u8],.int .i64,.sl 5 [.int .u8],.int .i64,.int .i64,.sl 3 [.int .i64],.int .i64,.sl 5 [.int .u8],.int .i64,.int .i64,.sl 3 [.int .i64],.bool,.int .i64,.sl 5 [.int .u8]]
abbrev Dy:List Sh:=[.int .i64,.sl 5 [.int .u8],.sl 5 [.int .u8],.int .i64,.sl 5 [.int .u8],.int .i64,.sl 5 [.int .u8],.int .i64,.int .i64,.sl 3 [.int .i64],.int .i64,.sl 5 [.int .u8],.int .i64,.int .i64,.sl 3 [.int .i64],.bool,.int .i64,.sl 5 [.int .u8],.int .i64,.int .i64,.sl 188 h_4,.int .i64,.int .i64,.bool]
abbrev Brt:List Sh:=[.sl 22 [.sl 5 [.int .u8]],.sl 5 [.int .u8],.sl 5 [.int .u8],.int .i64,.int .i64,.sl 88 Dy,.sl 53 h_2]
abbrev g_0:Bool×List Sh:=(false,[.sl 5 [.int .u8]])
abbrev g_1:Bool×List Sh:=(false,[.bool])
abbrev g_2:Bool×List Sh:=(true,h_1)
abbrev g_3:Bool×List Sh:=(false,[.int .i64])
abbrev g_4:Bool×List Sh:=(false,[.sl 22 [.sl 5 [.int .u8]]])
abbrev g_5:Bool×List Sh:=(true,[.sl 5 [.int .u8],.int .i64])
abbrev g_6:Bool×List Sh:=(false,[.sl 3 [.int .i64]])
abbrev g_7:Bool×List Sh:=(false,[.str])
abbrev g_8:Bool×List Sh:=(true,[.sl 5 [.int .u8]])
abbrev g_9:Bool×List Sh:=(true,[.int .i64,.sl 88 Dy])
abbrev Q6:Bool×List Sh:=(true,h_5)
abbrev J0:Bool×List Sh:=(true,Brs)
abbrev Fj:Bool×List Sh:=(true,[.int .i64,.int .i64])
abbrev Oz:Bool×List Sh:=(true,[.int .i64,.sl 3 [.int .i64]])
abbrev Ka:Bool×List Sh:=(true,h_6)
abbrev M8:Bool×List Sh:=(true,Dy)
abbrev Qs:Bool×List Sh:=(false,[.sl 53 h_2])
abbrev Lv:Bool×List Sh:=(true,Brt)
abbrev Gc:Bool×List Sh:=(true,h_8)
abbrev Bru:Bool×List Sh:=(true,h_4)
abbrev Bao:Bool×List Sh:=(true,h_3)
abbrev Btc:Bool×List Sh:=(false,[.int .u8])
abbrev Bap:Bool×List Sh:=(true,h_7)
abbrev Am4:Bool×List Sh:=(false,[.sl 50 h_9])
abbrev Am5:Bool×List Sh:=(false,[.sl 92 h_7])
def tys:List (Nat×Ty):=[(3,⟨false,[.int .i64],[],false,[]⟩),
 (4,⟨false,[.bool],[],false,[]⟩),
 (5,⟨false,[.int .u8],[],false,[]⟩),
 (9,⟨false,[.str],[],false,[]⟩),
 (22,⟨false,[.sl 5 [.int .u8]],[],false,[]⟩),
 (24,⟨false,[.sl 22 [.sl 5 [.int .u8]]],[],false,[]⟩),
 (26,⟨true,[.sl 5 [.int .u8]],[(0,1)],false,[]⟩),
 (28,⟨true,[.sl 5 [.int .u8],.int .i64],[(0,1),(1,1)],false,[]⟩),
 (29,⟨false,[.sl 88 Dy],[],false,[]⟩),
 (31,⟨true,[.int .i64,.sl 88 Dy],[(0,1),(1,1)],false,[]⟩),
 (32,⟨false,[.sl 53 h_2],[],false,[]⟩),
 (34,⟨true,Brt,[(0,1),(1,1),(2,2),(4,2),(6,1)],false,[]⟩),
 (36,⟨true,[.int .i64,.int .i64],[(0,1),(1,1)],true,[]⟩),
 (39,⟨false,[.sl 50 h_9],[],false,[]⟩),
 (40,⟨false,[.sl 92 h_7],[],false,[]⟩),
 (48,⟨true,h_8,[(0,1),(1,1),(2,1),(3,1),(4,1),(5,1),(6,1),(7,1),(8,1),(9,1),(10,1)],false,[]⟩),
 (50,⟨true,h_9,[(0,2),(2,11)],false,[]⟩),
 (53,⟨true,h_2,[(0,2),(2,1),(3,1)],true,[]⟩),
 (77,⟨false,[.sl 3 [.int .i64]],[],false,[]⟩),
 (79,⟨true,[.int .i64,.sl 3 [.int .i64]],[(0,1),(1,1)],false,[]⟩),
 (81,⟨true,h_5,[(0,1),(1,1),(2,1),(3,2)],false,[]⟩),
 (83,⟨true,Brs,[(0,1),(1,1),(2,5),(7,5),(12,1),(13,1),(14,1)],false,[]⟩),
 (84,⟨false,[.sl 188 h_4],[],false,[]⟩),
 (86,⟨true,h_6,[(0,2),(2,1)],false,[36,84]⟩),
 (88,⟨true,Dy,[(0,1),(1,1),(2,1),(3,15),(18,3),(21,1),(22,1),(23,1)],false,[]⟩),
 (92,⟨true,h_7,[(0,1),(1,1),(2,1),(3,1),(4,1),(5,1),(6,1),(7,1),(8,1),(9,2),(11,1)],false,[]⟩),
 (127,⟨true,h_1,[(0,1),(1,1),(2,1)],false,[]⟩),
 (188,⟨true,h_4,[(0,2),(2,1),(3,1)],false,[]⟩),
 (216,⟨false,[.int .u64],[],false,[]⟩),
 (246,⟨true,h_3,[(0,1),(1,1),(2,1)],false,[]⟩)]
theorem I7:Big Tryz.prog tys=true:=by kernel_rfl
theorem Mk:Tryz.prog.follows .mixedOrders=true:=by kernel_rfl
abbrev Dw (C:Fns):Cfg:=⟨A1x tys,Aav C,Wp C,3,4⟩
theorem mkF {f:FuncId} {fn:Func} {kd:Kind} {ps:List (Bool×List Sh)} {R:Type} {T:M9 ps->Tree R} {rvs:R->List RV×List RV} (C:Fns) (hc:Kb Tryz.prog C) (hf:Tryz.prog.funcs[f]? =some fn) (np:Nat) (hn:(fn.name== "runtime.NumGoroutine")=false:=by kernel_rfl) (hb:fn.body.isSome=true:=by kernel_rfl) (hl:By (fn.body.getD .skip)=[]:=by kernel_rfl)
  (he: ∀d,H7 (Dw C) np (fun _ _=>.fail) fn kd (mkA ps d)=(T d).run fun r=>some (rvs r):=by intro d;kernel_rfl):Fn Tryz.prog f kd (As ps (fun d=>(T d).val) rvs):=
 Nn (Gk Mk I7 hc) hf hn hb (fun cx b hp hbb=>by rw[hl]at hbb;cases hbb) he
abbrev lpq (r:Nat) (K:Sk) (z:Nat) (X:List (Ex×Sk)) (B:K.den->Option (K.den⊕Vm X)):Gu:=fun i st=>cond (Nat.beq i r) (lam K z X B st) .fail
theorem Dg {f:FuncId} {fn:Func} {kd:Kind} {ps:List (Bool×List Sh)} {R:Type} {T:M9 ps->Tree R} {rvs:R->List RV×List RV} (C:Fns) (hc:Kb Tryz.prog C) (K:Sk) (z:Nat) (X:List (Ex×Sk)) (r:Nat) (B:K.den->Option (K.den⊕Vm X)) (hf:Tryz.prog.funcs[f]? =some fn) (np:Nat) (hn:(fn.name== "runtime.NumGoroutine")=false:=by kernel_rfl) (hb:fn.body.isSome=true:=by kernel_rfl) (h1:By (fn.body.getD .skip)=[Bb fn 0]:=by kernel_rfl) (h2:By (Bb fn 0)=[]:=by kernel_rfl)
  (hq:lpq r K z X B (Pp (Bb fn 0))=lam K z X B:=by kernel_rfl) (hl: ∀d,bod (Dw C) np fn.ntmps (lpq r K z X B) (Bb fn 0) K z X d=B d:=by intro d;kernel_rfl)
  (he: ∀d,H7 (Dw C) np (lpq r K z X B) fn kd (mkA ps d)=(T d).run fun r=>some (rvs r):=by intro d;kernel_rfl):Fn Tryz.prog f kd (As ps (fun d=>(T d).val) rvs):=
 Nn (Gk Mk I7 hc) hf hn hb (fun cx b hp hbb=>De h1 ⟨Et (Gk Mk I7 hc) hp (De h2 trivial) hq hl,trivial⟩ b hbb) he
abbrev Fq (f:FuncId) (F:Au):Prop:=Fn Tryz.prog f .plain F
abbrev Fz (f:FuncId) (F:Au):FuncId×Kind×Au:=(f,.plain,F)
abbrev Fo (g:Bool×List Sh) (r:dens g.2):List RV×List RV:=([rv g r],[])
def Bgw:Au:=As [g_0] (fun d=>(Bgx d.1).val) (Fo g_1)
theorem Bn9:Fq 6 Bgw:=mkF [] trivial Tryz.func6 0
def A67:Au:=As [g_0] (fun d=>(Asr d.1).val) (Fo g_2)
theorem Bih:Fn Tryz.prog 22 .ret A67:=Dg [] trivial ⟨[(0,.v false [(.sl 5 [.int .u8],.ro)]),(3,.v false [(.int .i64,.nil)]),(4,.v false [(.int .i64,.nil)])],[],[]⟩ 4000000 [((.exit 0),⟨[(0,.v false [(.sl 5 [.int .u8],.ro)]),(3,.v false [(.int .i64,.nil)])],[],[]⟩)] 3 Aaw Tryz.func22 0
def Wq:Au:=As [g_2] (fun d=>(Am6 d.1).val) fun r=>([rv g_3 r.1],[rv g_2 r.2])
theorem Aax:Fn Tryz.prog 169 (.box [3] true true) Wq:=mkF [] trivial Tryz.func169 1
def Ec:Au:=As [g_2,g_3] (fun d=>(Ai6 d.1 d.2.1).val) fun r=>([rv g_3 r.1],[rv g_2 r.2])
theorem D8:Fn Tryz.prog 85 (.box [3] true true) Ec:=mkF [(169,(.box [3] true true),Wq)] ⟨Aax,trivial⟩ Tryz.func85 1
def I0:Au:=As [g_2,g_3] (fun d=>(Ai7 d.1 d.2.1).val) fun r=>([rv g_0 r.1],[rv g_2 r.2])
theorem I8:Fn Tryz.prog 84 (.box [3] true true) I0:=Dg [(169,(.box [3] true true),Wq)] ⟨Aax,trivial⟩ ⟨[(0,.box 0 0),(1,.v false [(.int .i64,.nil)]),(5,.v false [(.sl 5 [.int .u8],(.own 4000000))]),(6,.v false [(.int .i64,.nil)])],[(0,[(.sl 5 [.int .u8],(.pin 0)),(.int .i64,.nil),(.int .i64,.nil)])],[4000000]⟩ 4000000 [((.exit 0),⟨[(0,.box 0 0),(5,.v false [(.sl 5 [.int .u8],(.own 4000000))])],[(0,[(.sl 5 [.int .u8],(.pin 0)),(.int .i64,.nil),(.int .i64,.nil)])],[4000000]⟩)] 3 Pq Tryz.func84 1
def Axd:Au:=As [g_2] (fun d=>(Aay d.1).val) fun r=>([rv g_4 r.1],[rv g_2 r.2])
theorem Baq:Fn Tryz.prog 83 (.box [3] true true) Axd:=Dg [(85,(.box [3] true true),Ec),(84,(.box [3] true true),I0)] ⟨D8,I8,trivial⟩ ⟨[(0,.box 0 0),(3,.v false [(.sl 22 [.sl 5 [.int .u8]],(.own 4000000))]),(4,.v false [(.int .i64,.nil)])],[(0,[(.sl 5 [.int .u8],(.pin 0)),(.int .i64,.nil),(.int .i64,.nil)])],[4000000]⟩ 4000000 [((.exit 0),⟨[(0,.box 0 0),(3,.v false [(.sl 22 [.sl 5 [.int .u8]],(.own 4000000))])],[(0,[(.sl 5 [.int .u8],(.pin 0)),(.int .i64,.nil),(.int .i64,.nil)])],[4000000]⟩)] 3 Lz Tryz.func83 1
def Axe:Au:=As [g_5] (fun d=>(Ai8 d.1).val) (Fo g_5)
theorem Bar:Fq 134 Axe:=mkF [] trivial Tryz.func134 0
def Cy:Au:=As [g_3,g_3,g_3] (fun d=>(Azl d.1 d.2.1 d.2.2.1).val) (Fo g_1)
theorem Cp:Fq 51 Cy:=mkF [] trivial Tryz.func51 0
def Am7:Au:=As [g_5] (fun d=>(Am8 d.1).val) (Fo g_1)
theorem Axf:Fq 75 Am7:=mkF [Fz 51 Cy] ⟨Cp,trivial⟩ Tryz.func75 0
def Lf:Au:=As [g_0,g_3,g_3] (fun d=>(Azm d.1 d.2.1 d.2.2.1).val) (Fo g_0)
theorem Kp:Fq 143 Lf:=Dg [] trivial ⟨[(1,.v false [(.int .i64,.nil)]),(7,.v false [(.sl 5 [.int .u8],(.own 6000000))]),(8,.v false [(.int .i64,.nil)])],[],[6000000]⟩ 6000000 [((.exit 0),⟨[(7,.v false [(.sl 5 [.int .u8],(.own 6000000))])],[],[6000000]⟩)] 5 Wr Tryz.func143 0
def Bgy:Au:=As [g_3] (fun d=>(A41 d.1).val) (Fo g_0)
theorem Boa:Fq 277 Bgy:=Dg [Fz 143 Lf] ⟨Kp,trivial⟩ ⟨[(0,.v false [(.int .i64,.nil)]),(3,.v false [(.sl 5 [.int .u8],(.own 5000000))])],[],[5000000]⟩ 5000000 [((.exit 0),⟨[(0,.v false [(.int .i64,.nil)]),(3,.v false [(.sl 5 [.int .u8],(.own 5000000))])],[],[5000000]⟩)] 4 Ass Tryz.func277 0
def A68:Au:=As [] (fun d=>(A69).val) (Fo g_6)
theorem Bii:Fq 278 A68:=mkF [] trivial Tryz.func278 0
def Axg:Au:=As [g_6] (fun d=>(Ai9 d.1).val) (Fo g_1)
theorem Bas:Fq 296 Axg:=Dg [Fz 51 Cy] ⟨Cp,trivial⟩ ⟨[(0,.v false [(.sl 3 [.int .i64],.ro)]),(3,.v false [(.int .i64,.nil)])],[],[]⟩ 3000000 [(.ret,⟨[(2,.v false [(.bool,.nil)])],[],[]⟩),((.exit 0),⟨[(0,.v false [(.sl 3 [.int .i64],.ro)])],[],[]⟩)] 2 Pr Tryz.func296 0
def Bgz:Au:=As [] (fun d=>(Bg0).val) (Fo g_6)
theorem Bob:Fq 297 Bgz:=mkF [] trivial Tryz.func297 0
def Bat:Au:=As [g_0,g_3,g_3] (fun d=>(Azn d.1 d.2.1 d.2.2.1).val) fun r=>([rv g_3 r.1,rv g_3 r.2.1,rv g_1 r.2.2],[])
theorem Blc:Fq 137 Bat:=Dg [] trivial ⟨[(0,.v false [(.sl 5 [.int .u8],.ro)]),(1,.v false [(.int .i64,.nil)]),(2,.v false [(.int .i64,.nil)]),(9,.v false [(.int .i64,.nil)]),(10,.v false [(.int .i64,.nil)])],[],[]⟩ 6000000 [((.exit 0),⟨[(1,.v false [(.int .i64,.nil)]),(2,.v false [(.int .i64,.nil)]),(9,.v false [(.int .i64,.nil)])],[],[]⟩)] 5 Sw Tryz.func137 0
def A42:Au:=As [g_3,g_3] (fun d=>(A43 d.1 d.2.1).val) (Fo g_3)
theorem Bau:Fq 299 A42:=mkF [] trivial Tryz.func299 0
def Ast:Au:=As [g_0] (fun d=>(Ws d.1).val) (Fo g_6)
def Q7:Fns:=[Fz 137 Bat,Fz 299 A42]
theorem Aey:CfgOk Tryz.prog (Dw Q7):=Gk Mk I7 (show Kb Tryz.prog Q7 from⟨Blc,Bau,trivial⟩)
def Ahm:Sk:=⟨[(3,.v false [(.sl 3 [.int .i64],(.own 11000000))]),(8,.v false [(.int .i64,.nil)])],[],[11000000]⟩
def Ahn:List (Ex×Sk):=[((.exit 2),⟨[(3,.v false [(.sl 3 [.int .i64],(.own 11000000))])],[],[11000000]⟩)]
def Alc:Sk:=⟨[(0,.v false [(.sl 5 [.int .u8],.ro)]),(3,.v false [(.sl 3 [.int .i64],(.own 6000000))]),(4,.v false [(.int .i64,.nil)])],[],[6000000]⟩
def Ald:List (Ex×Sk):=[((.exit 0),⟨[(3,.v false [(.sl 3 [.int .i64],(.own 6000000))])],[],[6000000]⟩)]
def Q8:Gu:=fun i st=>cond (Nat.beq i 5) (lam Alc 6000000 Ald Kx st) <| cond (Nat.beq i 10) (lam Ahm 11000000 Ahn Jp st) <| .fail
theorem A1y (cx:Cx) (hp:cx.pin.length<=0):D9 Tryz.prog cx Tryz.f298.ntmps Q8 (Bb Tryz.f298 0):=Et Aey hp (De (by kernel_rfl:By (Bb Tryz.f298 0)=[]) trivial) (by kernel_rfl) (fun d=>(by kernel_rfl:bod (Dw Q7) 0 Tryz.f298.ntmps Q8 (Bb Tryz.f298 0) Alc 6000000 Ald d=Kx d))
theorem Azo (cx:Cx) (hp:cx.pin.length<=0):D9 Tryz.prog cx Tryz.f298.ntmps Q8 (Bb Tryz.f298 1):=Et Aey hp (De (by kernel_rfl:By (Bb Tryz.f298 1)=[]) trivial) (by kernel_rfl) (fun d=>(by kernel_rfl:bod (Dw Q7) 0 Tryz.f298.ntmps Q8 (Bb Tryz.f298 1) Ahm 11000000 Ahn d=Jp d))
theorem A9e:Fq 298 Ast:=Nn Aey Tryz.func298 (by kernel_rfl) (by kernel_rfl) (fun cx b hp hb=>De (by kernel_rfl:By (Tryz.f298.body.getD .skip)=[Bb Tryz.f298 0,Bb Tryz.f298 1]) ⟨A1y cx hp,Azo cx hp,trivial⟩ b hb) (fun d=>(by kernel_rfl:H7 (Dw Q7) 0 Q8 Tryz.f298 .plain (mkA [g_0] d)=(Ws d.1).run fun r=>some ([rv g_6 r],[])))
def Asu:Au:=As [g_6,g_0] (fun d=>(Wt d.1 d.2.1).val) (Fo g_6)
def Q9:Fns:=[Fz 296 Axg,Fz 297 Bgz,Fz 298 Ast,Fz 299 A42]
theorem Aez:CfgOk Tryz.prog (Dw Q9):=Gk Mk I7 (show Kb Tryz.prog Q9 from⟨Bas,Bob,A9e,Bau,trivial⟩)
def Aho:Sk:=⟨[(0,.v false [(.sl 3 [.int .i64],.ro)]),(5,.v false [(.sl 3 [.int .i64],(.own 23000000))]),(19,.v false [(.sl 3 [.int .i64],(.own 23000001))]),(20,.v false [(.int .i64,.nil)])],[],[23000000,23000001]⟩
def Ahp:List (Ex×Sk):=[((.exit 2),⟨[(5,.v false [(.sl 3 [.int .i64],(.own 23000000))])],[],[23000000]⟩)]
def Ale:Sk:=⟨[(0,.v false [(.sl 3 [.int .i64],.ro)]),(5,.v false [(.sl 3 [.int .i64],(.own 9000000))]),(6,.v false [(.sl 3 [.int .i64],(.own 9000001))]),(7,.v false [(.sl 3 [.int .i64],(.own 9000002))]),(8,.v false [(.int .i64,.nil)]),(9,.v false [(.int .i64,.nil)]),(10,.v false [(.int .i64,.nil)]),(11,.v false [(.int .i64,.nil)]),(12,.v false [(.int .i64,.nil)]),(13,.v false [(.int .i64,.nil)]),(14,.v false [(.int .i64,.nil)]),(15,.v false [(.int .i64,.nil)]),(16,.v false [(.int .i64,.nil)])],[],[9000000,9000001,9000002]⟩
def Alf:List (Ex×Sk):=[((.exit 0),⟨[(0,.v false [(.sl 3 [.int .i64],.ro)]),(5,.v false [(.sl 3 [.int .i64],(.own 9000000))]),(8,.v false [(.int .i64,.nil)]),(9,.v false [(.int .i64,.nil)]),(10,.v false [(.int .i64,.nil)]),(11,.v false [(.int .i64,.nil)]),(12,.v false [(.int .i64,.nil)]),(13,.v false [(.int .i64,.nil)]),(14,.v false [(.int .i64,.nil)]),(15,.v false [(.int .i64,.nil)])],[],[9000000]⟩)]
def Ra:Gu:=fun i st=>cond (Nat.beq i 8) (lam Ale 9000000 Alf Is st) <| cond (Nat.beq i 22) (lam Aho 23000000 Ahp H8 st) <| .fail
theorem A1z (cx:Cx) (hp:cx.pin.length<=0):D9 Tryz.prog cx Tryz.f279.ntmps Ra (Bb Tryz.f279 0):=Et Aez hp (De (by kernel_rfl:By (Bb Tryz.f279 0)=[]) trivial) (by kernel_rfl) (fun d=>(by kernel_rfl:bod (Dw Q9) 0 Tryz.f279.ntmps Ra (Bb Tryz.f279 0) Ale 9000000 Alf d=Is d))
theorem Azp (cx:Cx) (hp:cx.pin.length<=0):D9 Tryz.prog cx Tryz.f279.ntmps Ra (Bb Tryz.f279 1):=Et Aez hp (De (by kernel_rfl:By (Bb Tryz.f279 1)=[]) trivial) (by kernel_rfl) (fun d=>(by kernel_rfl:bod (Dw Q9) 0 Tryz.f279.ntmps Ra (Bb Tryz.f279 1) Aho 23000000 Ahp d=H8 d))
theorem A9f:Fq 279 Asu:=Nn Aez Tryz.func279 (by kernel_rfl) (by kernel_rfl) (fun cx b hp hb=>De (by kernel_rfl:By (Tryz.f279.body.getD .skip)=[Bb Tryz.f279 0,Bb Tryz.f279 1]) ⟨A1z cx hp,Azp cx hp,trivial⟩ b hb) (fun d=>(by kernel_rfl:H7 (Dw Q9) 0 Ra Tryz.f279 .plain (mkA [g_6,g_0] d)=(Wt d.1 d.2.1).run fun r=>some ([rv g_6 r],[])))
def A7a:Au:=As [g_6] (fun d=>(Asv d.1).val) (Fo g_0)
theorem Bij:Fq 280 A7a:=Dg [Fz 143 Lf] ⟨Kp,trivial⟩ ⟨[(0,.v false [(.sl 3 [.int .i64],.ro)]),(3,.v false [(.sl 5 [.int .u8],(.own 4000000))]),(4,.v false [(.int .i64,.nil)])],[],[4000000]⟩ 4000000 [((.exit 0),⟨[(3,.v false [(.sl 5 [.int .u8],(.own 4000000))])],[],[4000000]⟩)] 3 Qe Tryz.func280 0
def A44:Au:=As [g_0] (fun d=>(A45 d.1).val) (Fo g_0)
theorem Bav:Fq 252 A44:=Dg [Fz 277 Bgy,Fz 278 A68,Fz 279 Asu,Fz 280 A7a] ⟨Boa,Bii,A9f,Bij,trivial⟩ ⟨[(3,.v false [(.sl 5 [.int .u8],(.own 7000000))]),(4,.v false [(.sl 3 [.int .i64],(.own 7000001))]),(5,.v false [(.int .i64,.nil)])],[],[7000000,7000001]⟩ 7000000 [((.exit 0),⟨[(4,.v false [(.sl 3 [.int .i64],(.own 7000000))])],[],[7000000]⟩)] 6 V6 Tryz.func252 0
def Asw:Au:=As [g_0] (fun d=>(Ae0 d.1).val) (Fo g_0)
theorem A9g:Fq 251 Asw:=Dg [Fz 252 A44] ⟨Bav,trivial⟩ ⟨[(3,.v false [(.sl 5 [.int .u8],(.own 7000000))])],[],[7000000]⟩ 7000000 [((.exit 0),⟨[(3,.v false [(.sl 5 [.int .u8],(.own 7000000))])],[],[7000000]⟩)] 6 Sx Tryz.func251 0
def Zr:Au:=As [g_0,g_0] (fun d=>(Azq d.1 d.2.1).val) (Fo g_0)
theorem Abv:Fq 204 Zr:=Dg [Fz 251 Asw,Fz 252 A44] ⟨A9g,Bav,trivial⟩ ⟨[(1,.v false [(.sl 5 [.int .u8],.ro)]),(5,.v false [(.sl 5 [.int .u8],(.own 8000000))]),(6,.v false [(.sl 5 [.int .u8],(.own 8000001))]),(7,.v false [(.sl 5 [.int .u8],(.own 8000002))]),(8,.v false [(.int .i64,.nil)])],[],[8000000,8000001,8000002]⟩ 8000000 [((.exit 0),⟨[(1,.v false [(.sl 5 [.int .u8],.ro)]),(6,.v false [(.sl 5 [.int .u8],(.own 8000000))]),(7,.v false [(.sl 5 [.int .u8],(.own 8000001))])],[],[8000000,8000001]⟩)] 7 Sy Tryz.func204 0
def A10:Au:=As [g_0,g_3] (fun d=>(Am9 d.1 d.2.1).val) (Fo g_0)
theorem Be1:Fq 140 A10:=mkF [Fz 51 Cy,Fz 143 Lf,Fz 204 Zr] ⟨Cp,Kp,Abv,trivial⟩ Tryz.func140 0
def Baw:Au:=As [g_5] (fun d=>(Azr d.1).val) fun r=>([rv g_5 r.1,rv g_0 r.2],[])
theorem Bld:Fq 56 Baw:=mkF [Fz 134 Axe,Fz 75 Am7,Fz 140 A10] ⟨Bar,Axf,Be1,trivial⟩ Tryz.func56 0
def A11:Au:=As [g_0,g_0,g_3] (fun d=>(Ana d.1 d.2.1 d.2.2.1).val) fun r=>([rv g_0 r.1,rv g_1 r.2],[])
theorem Be2:Fq 216 A11:=Dg [Fz 51 Cy,Fz 204 Zr] ⟨Cp,Abv,trivial⟩ ⟨[(0,.v false [(.sl 5 [.int .u8],.ro)]),(1,.v false [(.sl 5 [.int .u8],.ro)]),(2,.v false [(.int .i64,.nil)]),(8,.v false [(.sl 5 [.int .u8],(.own 7000000))]),(9,.v false [(.sl 5 [.int .u8],(.own 7000001))]),(10,.v false [(.int .i64,.nil)])],[],[7000000,7000001]⟩ 7000000 [((.exit 0),⟨[(2,.v false [(.int .i64,.nil)]),(8,.v false [(.sl 5 [.int .u8],(.own 7000000))])],[],[7000000]⟩)] 6 Nq Tryz.func216 0
def Sz:Au:=As [g_0,g_7] (fun d=>(Anb d.1 d.2.1).val) (Fo g_0)
theorem T6:Fq 154 Sz:=mkF [Fz 216 A11] ⟨Be2,trivial⟩ Tryz.func154 0
def A12:Au:=As [g_0] (fun d=>(Anc d.1).val) (Fo g_8)
theorem Be3:Fq 167 A12:=mkF [Fz 154 Sz] ⟨T6,trivial⟩ Tryz.func167 0
def Ane:Au:=As [g_3] (fun d=>(Adl d.1).val) (Fo g_9)
theorem Axh:Fq 168 Ane:=mkF [Fz 51 Cy] ⟨Cp,trivial⟩ Tryz.func168 0
def Asx:Au:=As [g_8] (fun d=>(A7b d.1).val) (Fo g_1)
theorem A13:Fq 74 Asx:=mkF [] trivial Tryz.func74 0
def Azs:Au:=As [g_9] (fun d=>(Azt d.1).val) (Fo g_3)
theorem A7c:Fq 152 Azs:=Dg [] trivial ⟨[(1,.box 1 0),(3,.v false [(.int .i64,.nil)]),(4,.v false [(.int .i64,.nil)])],[(1,[(.int .i64,.nil),(.sl 88 Dy,.ro)])],[]⟩ 4000000 [((.exit 0),⟨[(3,.v false [(.int .i64,.nil)])],[],[]⟩)] 3 Wu Tryz.func152 0
def Aja:Au:=As [Q6] (fun d=>(Ajb d.1).val) (Fo g_1)
theorem Asy:Fq 254 Aja:=mkF [] trivial Tryz.func254 0
def Arr:Au:=As [J0] (fun d=>(Acn d.1).val) (Fo g_1)
theorem A46:Fq 211 Arr:=mkF [Fz 254 Aja] ⟨Asy,trivial⟩ Tryz.func211 0
def Rb:Au:=As [g_3] (fun d=>(Ae1 d.1).val) (Fo Fj)
theorem Rc:Fq 88 Rb:=mkF [Fz 51 Cy] ⟨Cp,trivial⟩ Tryz.func88 0
def Asz:Au:=As [Oz,g_3] (fun d=>(As0 d.1 d.2.1).val) (Fo g_1)
theorem A14:Fq 284 Asz:=mkF [] trivial Tryz.func284 0
def As1:Au:=As [Oz] (fun d=>(Ahq d.1).val) (Fo g_1)
def Abw:Fns:=[Fz 51 Cy,Fz 284 Asz]
theorem As2:CfgOk Tryz.prog (Dw Abw):=Gk Mk I7 (show Kb Tryz.prog Abw from⟨Cp,A14,trivial⟩)
def As3:Sk:=⟨[(1,.box 1 0),(4,.v false [(.int .i64,.nil)])],[(1,[(.int .i64,.nil),(.sl 3 [.int .i64],.ro)])],[]⟩
def As4:List (Ex×Sk):=[(.ret,⟨[(2,.v false [(.bool,.nil)])],[],[]⟩),((.exit 2),⟨[],[],[]⟩)]
def Axi:Sk:=⟨[(1,.box 1 0),(3,.v false [(.int .i64,.nil)])],[(1,[(.int .i64,.nil),(.sl 3 [.int .i64],.ro)])],[]⟩
def Axj:List (Ex×Sk):=[(.ret,⟨[(2,.v false [(.bool,.nil)])],[],[]⟩),((.exit 0),⟨[(1,.box 1 0)],[(1,[(.int .i64,.nil),(.sl 3 [.int .i64],.ro)])],[]⟩)]
def Abx:Gu:=fun i st=>cond (Nat.beq i 4) (lam Axi 5000000 Axj Na st) <| cond (Nat.beq i 11) (lam As3 12000000 As4 I9 st) <| .fail
theorem Bax (cx:Cx) (hp:cx.pin.length<=0):D9 Tryz.prog cx Tryz.f281.ntmps Abx (Bb Tryz.f281 0):=Et As2 hp (De (by kernel_rfl:By (Bb Tryz.f281 0)=[]) trivial) (by kernel_rfl) (fun d=>(by kernel_rfl:bod (Dw Abw) 0 Tryz.f281.ntmps Abx (Bb Tryz.f281 0) Axi 5000000 Axj d=Na d))
theorem A9h (cx:Cx) (hp:cx.pin.length<=0):D9 Tryz.prog cx Tryz.f281.ntmps Abx (Bb Tryz.f281 1):=Et As2 hp (De (by kernel_rfl:By (Bb Tryz.f281 1)=[]) trivial) (by kernel_rfl) (fun d=>(by kernel_rfl:bod (Dw Abw) 0 Tryz.f281.ntmps Abx (Bb Tryz.f281 1) As3 12000000 As4 d=I9 d))
theorem A15:Fq 281 As1:=Nn As2 Tryz.func281 (by kernel_rfl) (by kernel_rfl) (fun cx b hp hb=>De (by kernel_rfl:By (Tryz.f281.body.getD .skip)=[Bb Tryz.f281 0,Bb Tryz.f281 1]) ⟨Bax cx hp,A9h cx hp,trivial⟩ b hb) (fun d=>(by kernel_rfl:H7 (Dw Abw) 0 Abx Tryz.f281 .plain (mkA [Oz] d)=(Ahq d.1).run fun r=>some ([rv g_1 r],[])))
def Bay:Au:=As [Q6] (fun d=>(Azu d.1).val) (Fo g_1)
theorem Ble:Fq 255 Bay:=mkF [Fz 51 Cy,Fz 281 As1] ⟨Cp,A15,trivial⟩ Tryz.func255 0
def A16:Au:=As [J0] (fun d=>(Anf d.1).val) (Fo g_1)
theorem Be4:Fq 212 A16:=mkF [Fz 51 Cy,Fz 255 Bay,Fz 254 Aja] ⟨Cp,Ble,Asy,trivial⟩ Tryz.func212 0
def Ang:Au:=As [g_0,g_0] (fun d=>(A17 d.1 d.2.1).val) (Fo g_1)
theorem Axk:Fq 69 Ang:=mkF [] trivial Tryz.func69 0
def Ml:Au:=As [Fj] (fun d=>(Anh d.1).val) (Fo g_1)
theorem Nb:Fq 52 Ml:=mkF [Fz 51 Cy] ⟨Cp,trivial⟩ Tryz.func52 0
def Aaz:Au:=As [Ka] (fun d=>(Aa0 d.1).val) (Fo g_1)
def T7:Fns:=[Fz 52 Ml,Fz 51 Cy]
theorem Ajc:CfgOk Tryz.prog (Dw T7):=Gk Mk I7 (show Kb Tryz.prog T7 from⟨Nb,Cp,trivial⟩)
def Ars:Sk:=⟨[(1,.box 1 0),(3,.v false [(.int .i64,.nil)])],[(1,[(.int .i64,.nil),(.int .i64,.nil),(.sl 188 h_4,.ro)])],[]⟩
def Art:List (Ex×Sk):=[(.ret,⟨[(2,.v false [(.bool,.nil)])],[],[]⟩),((.exit 0),⟨[],[],[]⟩)]
def Alg:Sk:=⟨[(1,.box 1 0),(3,.v false [(.int .i64,.nil)]),(4,.box 4 0),(5,.v false [(.int .i64,.nil)])],[(1,[(.int .i64,.nil),(.int .i64,.nil),(.sl 188 h_4,.ro)]),(4,[(.int .i64,.nil),(.int .i64,.nil),(.sl 5 [.int .u8],.ro),(.int .i64,.nil)])],[]⟩
def Alh:List (Ex×Sk):=[(.ret,⟨[(2,.v false [(.bool,.nil)])],[],[]⟩),((.exit 2),⟨[(1,.box 1 0),(3,.v false [(.int .i64,.nil)])],[(1,[(.int .i64,.nil),(.int .i64,.nil),(.sl 188 h_4,.ro)])],[]⟩)]
def T8:Gu:=fun i st=>cond (Nat.beq i 10) (lam Alg 11000000 Alh It st) <| cond (Nat.beq i 4) (lam Ars 5000000 Art L0 st) <| .fail
theorem A18 (cx:Cx) (hp:cx.pin.length<=0):D9 Tryz.prog cx Tryz.f213.ntmps T8 (Bb Tryz.f213 1):=Et Ajc hp (De (by kernel_rfl:By (Bb Tryz.f213 1)=[]) trivial) (by kernel_rfl) (fun d=>(by kernel_rfl:bod (Dw T7) 0 Tryz.f213.ntmps T8 (Bb Tryz.f213 1) Alg 11000000 Alh d=It d))
theorem A47 (cx:Cx) (hp:cx.pin.length<=0):D9 Tryz.prog cx Tryz.f213.ntmps T8 (Bb Tryz.f213 0):=Et Ajc hp (De (by kernel_rfl:By (Bb Tryz.f213 0)=[Bb Tryz.f213 1]) ⟨A18 cx hp,trivial⟩) (by kernel_rfl) (fun d=>(by kernel_rfl:bod (Dw T7) 0 Tryz.f213.ntmps T8 (Bb Tryz.f213 0) Ars 5000000 Art d=L0 d))
theorem Ae2:Fq 213 Aaz:=Nn Ajc Tryz.func213 (by kernel_rfl) (by kernel_rfl) (fun cx b hp hb=>De (by kernel_rfl:By (Tryz.f213.body.getD .skip)=[Bb Tryz.f213 0]) ⟨A47 cx hp,trivial⟩ b hb) (fun d=>(by kernel_rfl:H7 (Dw T7) 0 T8 Tryz.f213 .plain (mkA [Ka] d)=(Aa0 d.1).run fun r=>some ([rv g_1 r],[])))
def Adm:Au:=As [M8] (fun d=>(Ani d.1).val) (Fo g_1)
theorem Ajd:Fq 151 Adm:=mkF [Fz 51 Cy,Fz 211 Arr,Fz 88 Rb,Fz 212 A16,Fz 69 Ang,Fz 213 Aaz] ⟨Cp,A46,Rc,Be4,Axk,Ae2,trivial⟩ Tryz.func151 0
def Anj:Au:=As [g_9,g_0] (fun d=>(Ank d.1 d.2.1).val) (Fo g_3)
theorem Axl:Fq 63 Anj:=Dg [Fz 69 Ang] ⟨Axk,trivial⟩ ⟨[(1,.v false [(.sl 5 [.int .u8],.ro)]),(2,.box 2 0),(5,.v false [(.int .i64,.nil)])],[(2,[(.int .i64,.nil),(.sl 88 Dy,.ro)])],[]⟩ 3000000 [(.ret,⟨[(4,.v false [(.int .i64,.nil)])],[],[]⟩),((.exit 0),⟨[],[],[]⟩)] 2 Rd Tryz.func63 0
def As5:Au:=As [g_9] (fun d=>(As6 d.1).val) (Fo g_1)
theorem A19:Fq 76 As5:=Dg [Fz 51 Cy,Fz 152 Azs,Fz 151 Adm,Fz 63 Anj] ⟨Cp,A7c,Ajd,Axl,trivial⟩ ⟨[(1,.box 1 0),(3,.v false [(.int .i64,.nil)])],[(1,[(.int .i64,.nil),(.sl 88 Dy,.ro)])],[]⟩ 5000000 [(.ret,⟨[(2,.v false [(.bool,.nil)])],[],[]⟩),((.exit 0),⟨[],[],[]⟩)] 4 T9 Tryz.func76 0
def Ps:Au:=As [Qs] (fun d=>(U6 d.1).val) (Fo g_1)
def Pt:Fns:=[Fz 52 Ml,Fz 51 Cy]
theorem Aco:CfgOk Tryz.prog (Dw Pt):=Gk Mk I7 (show Kb Tryz.prog Pt from⟨Nb,Cp,trivial⟩)
def Ahr:Sk:=⟨[(0,.v false [(.sl 53 h_2,.ro)]),(3,.v false [(.int .i64,.nil)])],[],[]⟩
def Ahs:List (Ex×Sk):=[(.ret,⟨[(2,.v false [(.bool,.nil)])],[],[]⟩),((.exit 0),⟨[],[],[]⟩)]
def Aht:Sk:=⟨[(0,.v false [(.sl 53 h_2,.ro)]),(3,.v false [(.int .i64,.nil)]),(4,.v false [(.int .i64,.nil)])],[],[]⟩
def Ahu:List (Ex×Sk):=[(.ret,⟨[(2,.v false [(.bool,.nil)])],[],[]⟩),((.exit 2),⟨[(0,.v false [(.sl 53 h_2,.ro)]),(3,.v false [(.int .i64,.nil)])],[],[]⟩)]
def Pu:Gu:=fun i st=>cond (Nat.beq i 9) (lam Aht 10000000 Ahu H9 st) <| cond (Nat.beq i 4) (lam Ahr 5000000 Ahs Jq st) <| .fail
theorem Azv (cx:Cx) (hp:cx.pin.length<=0):D9 Tryz.prog cx Tryz.f77.ntmps Pu (Bb Tryz.f77 1):=Et Aco hp (De (by kernel_rfl:By (Bb Tryz.f77 1)=[]) trivial) (by kernel_rfl) (fun d=>(by kernel_rfl:bod (Dw Pt) 0 Tryz.f77.ntmps Pu (Bb Tryz.f77 1) Aht 10000000 Ahu d=H9 d))
theorem Azw (cx:Cx) (hp:cx.pin.length<=0):D9 Tryz.prog cx Tryz.f77.ntmps Pu (Bb Tryz.f77 0):=Et Aco hp (De (by kernel_rfl:By (Bb Tryz.f77 0)=[Bb Tryz.f77 1]) ⟨Azv cx hp,trivial⟩) (by kernel_rfl) (fun d=>(by kernel_rfl:bod (Dw Pt) 0 Tryz.f77.ntmps Pu (Bb Tryz.f77 0) Ahr 5000000 Ahs d=Jq d))
theorem S3:Fq 77 Ps:=Nn Aco Tryz.func77 (by kernel_rfl) (by kernel_rfl) (fun cx b hp hb=>De (by kernel_rfl:By (Tryz.f77.body.getD .skip)=[Bb Tryz.f77 0]) ⟨Azw cx hp,trivial⟩ b hb) (fun d=>(by kernel_rfl:H7 (Dw Pt) 0 Pu Tryz.f77 .plain (mkA [Qs] d)=(U6 d.1).run fun r=>some ([rv g_1 r],[])))
def Aby:Au:=As [g_0] (fun d=>(As7 d.1).val) (Fo g_1)
theorem Adn:Fq 78 Aby:=mkF [Fz 51 Cy] ⟨Cp,trivial⟩ Tryz.func78 0
def As8:Au:=As [Lv] (fun d=>(Wv d.1).val) (Fo g_1)
def Re:Fns:=[Fz 51 Cy,Fz 74 Asx,Fz 75 Am7,Fz 76 As5,Fz 77 Ps,Fz 78 Aby]
theorem Ae3:CfgOk Tryz.prog (Dw Re):=Gk Mk I7 (show Kb Tryz.prog Re from⟨Cp,A13,Axf,A19,S3,Adn,trivial⟩)
def Ali:Sk:=⟨[(1,.box 1 0),(4,.v false [(.int .i64,.nil)])],[(1,[(.sl 22 [.sl 5 [.int .u8]],.ro),(.sl 5 [.int .u8],.ro),(.sl 5 [.int .u8],.ro),(.int .i64,.nil),(.int .i64,.nil),(.sl 88 Dy,.ro),(.sl 53 h_2,.ro)])],[]⟩
def Alj:List (Ex×Sk):=[(.ret,⟨[(2,.v false [(.bool,.nil)])],[],[]⟩),((.exit 2),⟨[],[],[]⟩)]
def Alk:Sk:=⟨[(1,.box 1 0),(3,.v false [(.int .i64,.nil)])],[(1,[(.sl 22 [.sl 5 [.int .u8]],.ro),(.sl 5 [.int .u8],.ro),(.sl 5 [.int .u8],.ro),(.int .i64,.nil),(.int .i64,.nil),(.sl 88 Dy,.ro),(.sl 53 h_2,.ro)])],[]⟩
def All:List (Ex×Sk):=[(.ret,⟨[(2,.v false [(.bool,.nil)])],[],[]⟩),((.exit 0),⟨[(1,.box 1 0)],[(1,[(.sl 22 [.sl 5 [.int .u8]],.ro),(.sl 5 [.int .u8],.ro),(.sl 5 [.int .u8],.ro),(.int .i64,.nil),(.int .i64,.nil),(.sl 88 Dy,.ro),(.sl 53 h_2,.ro)])],[]⟩)]
def Rf:Gu:=fun i st=>cond (Nat.beq i 4) (lam Alk 5000000 All Ky st) <| cond (Nat.beq i 9) (lam Ali 10000000 Alj Kz st) <| .fail
theorem A2a (cx:Cx) (hp:cx.pin.length<=0):D9 Tryz.prog cx Tryz.f19.ntmps Rf (Bb Tryz.f19 0):=Et Ae3 hp (De (by kernel_rfl:By (Bb Tryz.f19 0)=[]) trivial) (by kernel_rfl) (fun d=>(by kernel_rfl:bod (Dw Re) 0 Tryz.f19.ntmps Rf (Bb Tryz.f19 0) Alk 5000000 All d=Ky d))
theorem A2b (cx:Cx) (hp:cx.pin.length<=0):D9 Tryz.prog cx Tryz.f19.ntmps Rf (Bb Tryz.f19 1):=Et Ae3 hp (De (by kernel_rfl:By (Bb Tryz.f19 1)=[]) trivial) (by kernel_rfl) (fun d=>(by kernel_rfl:bod (Dw Re) 0 Tryz.f19.ntmps Rf (Bb Tryz.f19 1) Ali 10000000 Alj d=Kz d))
theorem A9i:Fq 19 As8:=Nn Ae3 Tryz.func19 (by kernel_rfl) (by kernel_rfl) (fun cx b hp hb=>De (by kernel_rfl:By (Tryz.f19.body.getD .skip)=[Bb Tryz.f19 0,Bb Tryz.f19 1]) ⟨A2a cx hp,A2b cx hp,trivial⟩ b hb) (fun d=>(by kernel_rfl:H7 (Dw Re) 0 Rf Tryz.f19 .plain (mkA [Lv] d)=(Wv d.1).run fun r=>some ([rv g_1 r],[])))
def Aru:Au:=As [g_4,g_0,g_3] (fun d=>(U7 d.1 d.2.1 d.2.2.1).val) (Fo Lv)
theorem A48:Fq 82 Aru:=Dg [Fz 56 Baw,Fz 167 A12,Fz 168 Ane,Fz 19 As8] ⟨Bld,Be3,Axh,A9i,trivial⟩ ⟨[(0,.v false [(.sl 22 [.sl 5 [.int .u8]],.ro)]),(6,.box 6 0),(9,.box 9 0),(10,.v false [(.int .i64,.nil)])],[(6,[(.sl 22 [.sl 5 [.int .u8]],(.own 5000000)),(.sl 5 [.int .u8],(.own 5000001)),(.sl 5 [.int .u8],(.own 5000002)),(.int .i64,.nil),(.int .i64,.nil),(.sl 88 Dy,(.own 5000003)),(.sl 53 h_2,(.own 5000004))]),(9,[(.sl 22 [.sl 5 [.int .u8]],(.own 5000005)),(.sl 5 [.int .u8],(.own 5000006)),(.sl 5 [.int .u8],(.own 5000007)),(.int .i64,.nil),(.int .i64,.nil),(.sl 88 Dy,(.own 5000008)),(.sl 53 h_2,(.own 5000009))])],[5000000,5000001,5000002,5000003,5000004,5000005,5000006,5000007,5000008,5000009]⟩ 5000000 [((.exit 0),⟨[(6,.box 6 0),(9,.box 9 0)],[(6,[(.sl 22 [.sl 5 [.int .u8]],(.own 5000000)),(.sl 5 [.int .u8],(.own 5000001)),(.sl 5 [.int .u8],(.own 5000002)),(.int .i64,.nil),(.int .i64,.nil),(.sl 88 Dy,(.own 5000003)),(.sl 53 h_2,(.own 5000004))]),(9,[(.sl 22 [.sl 5 [.int .u8]],(.own 5000005)),(.sl 5 [.int .u8],(.own 5000006)),(.sl 5 [.int .u8],(.own 5000007)),(.int .i64,.nil),(.int .i64,.nil),(.sl 88 Dy,(.own 5000008)),(.sl 53 h_2,(.own 5000009))])],[5000000,5000001,5000002,5000003,5000004,5000005,5000006,5000007,5000008,5000009]⟩)] 4 Jr Tryz.func82 0
def Arv:Au:=As [g_2] (fun d=>(U8 d.1).val) fun r=>([rv Gc r.1],[rv g_2 r.2])
theorem A49:Fn Tryz.prog 201 (.box [3] true true) Arv:=mkF [(84,(.box [3] true true),I0),(85,(.box [3] true true),Ec)] ⟨I8,D8,trivial⟩ Tryz.func201 1
def Ado:Au:=As [g_3] (fun d=>(Anl d.1).val) (Fo g_1)
theorem Aje:Fq 71 Ado:=mkF [Fz 51 Cy] ⟨Cp,trivial⟩ Tryz.func71 0
def Anm:Au:=As [g_3,g_3] (fun d=>(Ann d.1 d.2.1).val) (Fo g_1)
theorem Axm:Fq 205 Anm:=mkF [] trivial Tryz.func205 0
def Ua:Au:=As [Gc] (fun d=>(Ajf d.1).val) (Fo g_1)
theorem Ww:Fq 144 Ua:=mkF [Fz 71 Ado,Fz 51 Cy,Fz 205 Anm] ⟨Aje,Cp,Axm,trivial⟩ Tryz.func144 0
def Ajg:Au:=As [g_0,g_0] (fun d=>(Aa1 d.1 d.2.1).val) (Fo g_0)
theorem As9:Fq 155 Ajg:=mkF [Fz 204 Zr] ⟨Abv,trivial⟩ Tryz.func155 0
def Arw:Au:=As [g_0] (fun d=>(Acp d.1).val) (Fo g_0)
theorem A5a:Fq 67 Arw:=mkF [Fz 78 Aby,Fz 155 Ajg,Fz 154 Sz] ⟨Adn,As9,T6,trivial⟩ Tryz.func67 0
def Arx:Au:=As [g_3,g_0,g_0,g_3,g_0] (fun d=>(Acq d.1 d.2.1 d.2.2.1 d.2.2.2.1 d.2.2.2.2.1).val) (Fo g_0)
theorem A5b:Fq 68 Arx:=mkF [Fz 51 Cy,Fz 143 Lf] ⟨Cp,Kp,trivial⟩ Tryz.func68 0
def Awk:Au:=As [g_0,g_0] (fun d=>(A5c d.1 d.2.1).val) (Fo g_0)
theorem Azx:Fq 141 Awk:=mkF [Fz 204 Zr] ⟨Abv,trivial⟩ Tryz.func141 0
def A7d:Au:=As [g_0,g_3,g_0,g_0,g_3,g_0] (fun d=>(Ata d.1 d.2.1 d.2.2.1 d.2.2.2.1 d.2.2.2.2.1 d.2.2.2.2.2.1).val) (Fo g_0)
theorem Bik:Fq 147 A7d:=mkF [Fz 67 Arw,Fz 68 Arx,Fz 141 Awk] ⟨A5a,A5b,Azx,trivial⟩ Tryz.func147 0
def Ano:Au:=As [Gc] (fun d=>(Anp d.1).val) (Fo Gc)
theorem Axn:Fq 170 Ano:=mkF [] trivial Tryz.func170 0
def Ae4:Au:=As [g_0,g_3,Gc] (fun d=>(Rg d.1 d.2.1 d.2.2.1).val) fun r=>([rv Gc r.1,rv g_1 r.2],[])
theorem Ary:Fq 91 Ae4:=mkF [Fz 144 Ua,Fz 147 A7d,Fz 170 Ano] ⟨Ww,Bik,Axn,trivial⟩ Tryz.func91 0
def Ja:Au:=As [g_2,g_6] (fun d=>(Ahv d.1 d.2.1).val) fun r=>([rv g_3 r.1],[rv g_2 r.2])
theorem I1:Fn Tryz.prog 89 (.box [3] true true) Ja:=mkF [(85,(.box [3] true true),Ec)] ⟨D8,trivial⟩ Tryz.func89 1
def Axo:Au:=As [g_0,g_0,g_0] (fun d=>(Ajh d.1 d.2.1 d.2.2.1).val) (Fo g_0)
theorem Baz:Fq 209 Axo:=mkF [Fz 78 Aby,Fz 155 Ajg] ⟨Adn,As9,trivial⟩ Tryz.func209 0
def Atb:Au:=As [g_0] (fun d=>(Ae5 d.1).val) (Fo g_0)
theorem A9j:Fq 208 Atb:=mkF [Fz 154 Sz] ⟨T6,trivial⟩ Tryz.func208 0
def A7e:Au:=As [g_0,g_3] (fun d=>(Atc d.1 d.2.1).val) (Fo g_0)
theorem Bil:Fq 210 A7e:=Dg [Fz 51 Cy,Fz 154 Sz] ⟨Cp,T6,trivial⟩ ⟨[(1,.v false [(.int .i64,.nil)]),(5,.v false [(.sl 5 [.int .u8],(.own 6000000))]),(6,.v false [(.int .i64,.nil)])],[],[6000000]⟩ 6000000 [((.exit 0),⟨[(5,.v false [(.sl 5 [.int .u8],(.own 6000000))])],[],[6000000]⟩)] 5 Qf Tryz.func210 0
def Atd:Au:=As [g_0,g_0,g_0,g_3] (fun d=>(Ae6 d.1 d.2.1 d.2.2.1 d.2.2.2.1).val) (Fo g_0)
theorem A9k:Fq 149 Atd:=mkF [Fz 209 Axo,Fz 208 Atb,Fz 210 A7e] ⟨Baz,A9j,Bil,trivial⟩ Tryz.func149 0
def Anq:Au:=As [] (fun d=>(Anr).val) (Fo Oz)
theorem Axp:Fq 253 Anq:=Dg [] trivial ⟨[(0,.box 0 0),(1,.box 1 0),(2,.v false [(.int .i64,.nil)])],[(0,[(.int .i64,.nil),(.sl 3 [.int .i64],(.own 4000000))]),(1,[(.int .i64,.nil),(.sl 3 [.int .i64],(.own 4000001))])],[4000000,4000001]⟩ 4000000 [((.exit 0),⟨[(0,.box 0 0),(1,.box 1 0)],[(0,[(.int .i64,.nil),(.sl 3 [.int .i64],(.own 4000000))]),(1,[(.int .i64,.nil),(.sl 3 [.int .i64],(.own 4000001))])],[4000000,4000001]⟩)] 3 Nr Tryz.func253 0
def Ahw:Au:=As [g_3,g_0] (fun d=>(Abz d.1 d.2.1).val) (Fo Q6)
theorem Ant:Fq 207 Ahw:=mkF [Fz 51 Cy,Fz 253 Anq] ⟨Cp,Axp,trivial⟩ Tryz.func207 0
def Aji:Au:=As [g_3,g_0,g_0] (fun d=>(Ub d.1 d.2.1 d.2.2.1).val) (Fo J0)
theorem Ate:Fq 148 Aji:=mkF [Fz 51 Cy,Fz 207 Ahw] ⟨Cp,Ant,trivial⟩ Tryz.func148 0
def Ae7:Au:=As [Fj] (fun d=>(Ae8 d.1).val) (Fo Ka)
theorem Arz:Fq 150 Ae7:=mkF [] trivial Tryz.func150 0
def Axq:Au:=As [g_0,g_3,Fj,Gc] (fun d=>(Qg d.1 d.2.1 d.2.2.1 d.2.2.2.1).val) (Fo M8)
theorem Ba0:Fq 64 Axq:=mkF [Fz 78 Aby,Fz 51 Cy,Fz 52 Ml,Fz 144 Ua,Fz 149 Atd,Fz 148 Aji,Fz 150 Ae7] ⟨Adn,Cp,Nb,Ww,A9k,Ate,Arz,trivial⟩ Tryz.func64 0
def Kc:Au:=As [g_2,g_3] (fun d=>(Anu d.1 d.2.1).val) fun r=>([rv g_1 r.1],[rv g_2 r.2])
theorem Kq:Fn Tryz.prog 47 (.box [3] true true) Kc:=mkF [(85,(.box [3] true true),Ec)] ⟨D8,trivial⟩ Tryz.func47 1
def A2c:Au:=As [g_2,g_3] (fun d=>(Anv d.1 d.2.1).val) fun r=>([rv g_6 r.1],[rv g_2 r.2])
theorem Be5:Fn Tryz.prog 276 (.box [3] true true) A2c:=Dg [(89,(.box [3] true true),Ja),(85,(.box [3] true true),Ec),(47,(.box [3] true true),Kc)] ⟨I1,D8,Kq,trivial⟩ ⟨[(0,.box 0 0),(5,.v false [(.sl 3 [.int .i64],(.own 5000000))]),(6,.v false [(.int .i64,.nil)]),(7,.v false [(.int .i64,.nil)])],[(0,[(.sl 5 [.int .u8],(.pin 0)),(.int .i64,.nil),(.int .i64,.nil)])],[5000000]⟩ 5000000 [((.exit 0),⟨[(0,.box 0 0),(5,.v false [(.sl 3 [.int .i64],(.own 5000000))])],[(0,[(.sl 5 [.int .u8],(.pin 0)),(.int .i64,.nil),(.int .i64,.nil)])],[5000000]⟩)] 4 Wx Tryz.func276 1
def Anw:Au:=As [Oz] (fun d=>(A2d d.1).val) (Fo Oz)
theorem Axr:Fq 282 Anw:=mkF [] trivial Tryz.func282 0
def Axs:Au:=As [g_3] (fun d=>(Ajj d.1).val) (Fo g_3)
theorem Ba1:Fq 283 Axs:=mkF [] trivial Tryz.func283 0
def A2e:Au:=As [Oz,g_3] (fun d=>(Anx d.1 d.2.1).val) (Fo g_1)
theorem Be6:Fq 258 A2e:=mkF [Fz 281 As1,Fz 51 Cy,Fz 283 Axs,Fz 284 Asz] ⟨A15,Cp,Ba1,A14,trivial⟩ Tryz.func258 0
def A2f:Au:=As [Oz,g_3] (fun d=>(Any d.1 d.2.1).val) fun r=>([rv Oz r.1,rv g_1 r.2],[])
theorem Be7:Fq 260 A2f:=Dg [Fz 282 Anw,Fz 258 A2e] ⟨Axr,Be6,trivial⟩ ⟨[(1,.v false [(.int .i64,.nil)]),(2,.box 2 0),(4,.box 4 0),(6,.box 6 0),(7,.v false [(.int .i64,.nil)]),(8,.v false [(.int .i64,.nil)])],[(2,[(.int .i64,.nil),(.sl 3 [.int .i64],.ro)]),(4,[(.int .i64,.nil),(.sl 3 [.int .i64],(.own 7000000))]),(6,[(.int .i64,.nil),(.sl 3 [.int .i64],(.own 7000001))])],[7000000,7000001]⟩ 7000000 [((.exit 0),⟨[(1,.v false [(.int .i64,.nil)]),(2,.box 2 0),(4,.box 4 0),(6,.box 6 0)],[(2,[(.int .i64,.nil),(.sl 3 [.int .i64],.ro)]),(4,[(.int .i64,.nil),(.sl 3 [.int .i64],(.own 7000000))]),(6,[(.int .i64,.nil),(.sl 3 [.int .i64],(.own 7000001))])],[7000000,7000001]⟩)] 6 Ns Tryz.func260 0
def A7f:Au:=As [g_6] (fun d=>(Ahx d.1).val) (Fo Oz)
theorem Bim:Fq 275 A7f:=Dg [Fz 253 Anq,Fz 260 A2f] ⟨Axp,Be7,trivial⟩ ⟨[(0,.v false [(.sl 3 [.int .i64],.ro)]),(2,.box 2 0),(3,.box 3 0),(4,.v false [(.int .i64,.nil)])],[(2,[(.int .i64,.nil),(.sl 3 [.int .i64],(.own 4000000))]),(3,[(.int .i64,.nil),(.sl 3 [.int .i64],(.own 4000001))])],[4000000,4000001]⟩ 4000000 [((.exit 0),⟨[(2,.box 2 0),(3,.box 3 0)],[(2,[(.int .i64,.nil),(.sl 3 [.int .i64],(.own 4000000))]),(3,[(.int .i64,.nil),(.sl 3 [.int .i64],(.own 4000001))])],[4000000,4000001]⟩)] 3 Uc Tryz.func275 0
def A2g:Au:=As [g_2] (fun d=>(Adp d.1).val) fun r=>([rv Oz r.1],[rv g_2 r.2])
theorem Be8:Fn Tryz.prog 250 (.box [3] true true) A2g:=mkF [(276,(.box [3] true true),A2c),Fz 275 A7f] ⟨Be5,Bim,trivial⟩ Tryz.func250 1
def Axt:Au:=As [g_2,g_3] (fun d=>(Aa2 d.1 d.2.1).val) fun r=>([rv J0 r.1],[rv g_2 r.2])
theorem Ba2:Fn Tryz.prog 202 (.box [3] true true) Axt:=mkF [(84,(.box [3] true true),I0),Fz 148 Aji,(89,(.box [3] true true),Ja),(47,(.box [3] true true),Kc),(250,(.box [3] true true),A2g),Fz 154 Sz,Fz 207 Ahw] ⟨I8,Ate,I1,Kq,Be8,T6,Ant,trivial⟩ Tryz.func202 1
def Ajk:Au:=As [Bru] (fun d=>(Ajl d.1).val) (Fo Bru)
theorem Atf:Fq 220 Ajk:=mkF [] trivial Tryz.func220 0
def Aa3:Au:=As [Ka] (fun d=>(Ajm d.1).val) (Fo Ka)
theorem Ae9:Fq 215 Aa3:=Dg [Fz 220 Ajk] ⟨Atf,trivial⟩ ⟨[(1,.box 1 0),(2,.box 2 0),(3,.box 3 0),(4,.v false [(.int .i64,.nil)])],[(1,[(.int .i64,.nil),(.int .i64,.nil),(.sl 188 h_4,.ro)]),(2,[(.int .i64,.nil),(.int .i64,.nil),(.sl 188 h_4,(.own 4000000))]),(3,[(.int .i64,.nil),(.int .i64,.nil),(.sl 188 h_4,(.own 4000001))])],[4000000,4000001]⟩ 4000000 [((.exit 0),⟨[(2,.box 2 0),(3,.box 3 0)],[(2,[(.int .i64,.nil),(.int .i64,.nil),(.sl 188 h_4,(.own 4000000))]),(3,[(.int .i64,.nil),(.int .i64,.nil),(.sl 188 h_4,(.own 4000001))])],[4000000,4000001]⟩)] 3 L3 Tryz.func215 0
def Atg:Au:=As [Ka,g_3] (fun d=>(Afa d.1 d.2.1).val) (Fo Ka)
theorem A9l:Fq 222 Atg:=Dg [Fz 213 Aaz,Fz 51 Cy,Fz 215 Aa3,Fz 220 Ajk] ⟨Ae2,Cp,Ae9,Atf,trivial⟩ ⟨[(1,.v false [(.int .i64,.nil)]),(2,.box 2 0),(4,.box 4 0),(5,.box 5 0),(6,.v false [(.int .i64,.nil)])],[(2,[(.int .i64,.nil),(.int .i64,.nil),(.sl 188 h_4,.ro)]),(4,[(.int .i64,.nil),(.int .i64,.nil),(.sl 188 h_4,(.own 6000000))]),(5,[(.int .i64,.nil),(.int .i64,.nil),(.sl 188 h_4,(.own 6000001))])],[6000000,6000001]⟩ 6000000 [((.exit 0),⟨[(4,.box 4 0),(5,.box 5 0)],[(4,[(.int .i64,.nil),(.int .i64,.nil),(.sl 188 h_4,(.own 6000000))]),(5,[(.int .i64,.nil),(.int .i64,.nil),(.sl 188 h_4,(.own 6000001))])],[6000000,6000001]⟩)] 5 K0 Tryz.func222 0
def A7g:Au:=As [Ka,g_3,Fj,g_0] (fun d=>(Ath d.1 d.2.1 d.2.2.1 d.2.2.2.1).val) fun r=>([rv Ka r.1,rv g_1 r.2],[])
theorem Bin:Fq 163 A7g:=Dg [Fz 213 Aaz,Fz 51 Cy,Fz 52 Ml,Fz 215 Aa3,Fz 222 Atg] ⟨Ae2,Cp,Nb,Ae9,A9l,trivial⟩ ⟨[(1,.v false [(.int .i64,.nil)]),(3,.v false [(.sl 5 [.int .u8],.ro)]),(4,.box 4 0),(6,.box 6 0),(8,.box 8 0),(10,.box 10 0),(11,.v false [(.int .i64,.nil)])],[(4,[(.int .i64,.nil),(.int .i64,.nil),(.sl 188 h_4,.ro)]),(6,[(.int .i64,.nil),(.int .i64,.nil)]),(8,[(.int .i64,.nil),(.int .i64,.nil),(.sl 188 h_4,(.own 6000000))]),(10,[(.int .i64,.nil),(.int .i64,.nil),(.sl 188 h_4,(.own 6000001))])],[6000000,6000001]⟩ 6000000 [(.ret,⟨[(8,.box 8 0),(9,.v false [(.bool,.nil)])],[(8,[(.int .i64,.nil),(.int .i64,.nil),(.sl 188 h_4,(.own 6000000))])],[6000000]⟩),((.exit 0),⟨[(1,.v false [(.int .i64,.nil)]),(3,.v false [(.sl 5 [.int .u8],.ro)]),(4,.box 4 0),(6,.box 6 0),(8,.box 8 0),(10,.box 10 0)],[(4,[(.int .i64,.nil),(.int .i64,.nil),(.sl 188 h_4,.ro)]),(6,[(.int .i64,.nil),(.int .i64,.nil)]),(8,[(.int .i64,.nil),(.int .i64,.nil),(.sl 188 h_4,(.own 6000000))]),(10,[(.int .i64,.nil),(.int .i64,.nil),(.sl 188 h_4,(.own 6000001))])],[6000000,6000001]⟩)] 5 Qh Tryz.func163 0
def Axu:Au:=As [g_2] (fun d=>(Aa4 d.1).val) fun r=>([rv Ka r.1],[rv g_2 r.2])
theorem Ba3:Fn Tryz.prog 203 (.box [3] true true) Axu:=Dg [(85,(.box [3] true true),Ec),Fz 88 Rb,Fz 150 Ae7,(84,(.box [3] true true),I0),Fz 163 A7g] ⟨D8,Rc,Arz,I8,Bin,trivial⟩ ⟨[(0,.box 0 0),(2,.box 2 0),(3,.box 3 0),(4,.v false [(.int .i64,.nil)]),(5,.v false [(.int .i64,.nil)])],[(0,[(.sl 5 [.int .u8],(.pin 0)),(.int .i64,.nil),(.int .i64,.nil)]),(2,[(.int .i64,.nil),(.int .i64,.nil),(.sl 188 h_4,(.own 5000000))]),(3,[(.int .i64,.nil),(.int .i64,.nil),(.sl 188 h_4,(.own 5000001))])],[5000000,5000001]⟩ 5000000 [((.exit 0),⟨[(0,.box 0 0),(2,.box 2 0),(3,.box 3 0)],[(0,[(.sl 5 [.int .u8],(.pin 0)),(.int .i64,.nil),(.int .i64,.nil)]),(2,[(.int .i64,.nil),(.int .i64,.nil),(.sl 188 h_4,(.own 5000000))]),(3,[(.int .i64,.nil),(.int .i64,.nil),(.sl 188 h_4,(.own 5000001))])],[5000000,5000001]⟩)] 4 U9 Tryz.func203 1
def Axv:Au:=As [g_2] (fun d=>(Aa5 d.1).val) fun r=>([rv M8 r.1],[rv g_2 r.2])
theorem Ba4:Fn Tryz.prog 132 (.box [3] true false) Axv:=mkF [(84,(.box [3] true true),I0),(85,(.box [3] true true),Ec),(201,(.box [3] true true),Arv),Fz 91 Ae4,(89,(.box [3] true true),Ja),Fz 88 Rb,Fz 64 Axq,(47,(.box [3] true true),Kc),(202,(.box [3] true true),Axt),(203,(.box [3] true true),Axu)] ⟨I8,D8,A49,Ary,I1,Rc,Ba0,Kq,Ba2,Ba3,trivial⟩ Tryz.func132 1
def Anz:Au:=As [Q6] (fun d=>(An0 d.1).val) (Fo Q6)
theorem Axw:Fq 256 Anz:=mkF [Fz 282 Anw] ⟨Axr,trivial⟩ Tryz.func256 0
def A7h:Au:=As [Q6,g_1] (fun d=>(Ati d.1 d.2.1).val) (Fo Q6)
theorem Bio:Fq 257 A7h:=mkF [Fz 256 Anz] ⟨Axw,trivial⟩ Tryz.func257 0
def Axx:Au:=As [J0] (fun d=>(Ajn d.1).val) (Fo J0)
theorem Ba5:Fq 214 Axx:=mkF [Fz 256 Anz,Fz 257 A7h] ⟨Axw,Bio,trivial⟩ Tryz.func214 0
def Aa6:Au:=As [M8] (fun d=>(Ajo d.1).val) (Fo M8)
theorem Afb:Fq 153 Aa6:=mkF [Fz 214 Axx,Fz 215 Aa3] ⟨Ba5,Ae9,trivial⟩ Tryz.func153 0
def Axy:Au:=As [g_9] (fun d=>(Ajp d.1).val) (Fo g_9)
theorem Ba6:Fq 135 Axy:=Dg [Fz 153 Aa6] ⟨Afb,trivial⟩ ⟨[(1,.box 1 0),(2,.box 2 0),(3,.box 3 0),(4,.v false [(.int .i64,.nil)])],[(1,[(.int .i64,.nil),(.sl 88 Dy,.ro)]),(2,[(.int .i64,.nil),(.sl 88 Dy,(.own 4000000))]),(3,[(.int .i64,.nil),(.sl 88 Dy,(.own 4000001))])],[4000000,4000001]⟩ 4000000 [((.exit 0),⟨[(2,.box 2 0),(3,.box 3 0)],[(2,[(.int .i64,.nil),(.sl 88 Dy,(.own 4000000))]),(3,[(.int .i64,.nil),(.sl 88 Dy,(.own 4000001))])],[4000000,4000001]⟩)] 3 L4 Tryz.func135 0
def Ajq:Au:=As [g_9,M8] (fun d=>(Ajr d.1 d.2.1).val) fun r=>([rv g_9 r.1,rv g_3 r.2],[])
theorem Atj:Fq 65 Ajq:=mkF [Fz 135 Axy,Fz 76 As5,Fz 151 Adm,Fz 63 Anj,Fz 152 Azs,Fz 153 Aa6] ⟨Ba6,A19,Ajd,Axl,A7c,Afb,trivial⟩ Tryz.func65 0
def Ba7:Au:=As [M8] (fun d=>(An1 d.1).val) (Fo M8)
theorem Blf:Fq 131 Ba7:=mkF [Fz 151 Adm,Fz 153 Aa6] ⟨Ajd,Afb,trivial⟩ Tryz.func131 0
def Axz:Au:=As [g_2] (fun d=>(Aa7 d.1).val) fun r=>([rv g_9 r.1],[rv g_2 r.2])
theorem Ba8:Fn Tryz.prog 86 (.box [3] true true) Axz:=Dg [(85,(.box [3] true true),Ec),Fz 168 Ane,(132,(.box [3] true false),Axv),Fz 65 Ajq,(47,(.box [3] true true),Kc),Fz 131 Ba7] ⟨D8,Axh,Ba4,Atj,Kq,Blf,trivial⟩ ⟨[(0,.box 0 0),(2,.box 2 0),(3,.box 3 0),(4,.v false [(.int .i64,.nil)])],[(0,[(.sl 5 [.int .u8],(.pin 0)),(.int .i64,.nil),(.int .i64,.nil)]),(2,[(.int .i64,.nil),(.sl 88 Dy,(.own 4000000))]),(3,[(.int .i64,.nil),(.sl 88 Dy,(.own 4000001))])],[4000000,4000001]⟩ 4000000 [((.exit 0),⟨[(0,.box 0 0),(2,.box 2 0),(3,.box 3 0)],[(0,[(.sl 5 [.int .u8],(.pin 0)),(.int .i64,.nil),(.int .i64,.nil)]),(2,[(.int .i64,.nil),(.sl 88 Dy,(.own 4000000))]),(3,[(.int .i64,.nil),(.sl 88 Dy,(.own 4000001))])],[4000000,4000001]⟩)] 3 L5 Tryz.func86 1
def Ahy:Au:=As [Qs,Fj] (fun d=>(Atk d.1 d.2.1).val) (Fo g_3)
theorem An2:Fq 136 Ahy:=Dg [] trivial ⟨[(0,.v false [(.sl 53 h_2,.ro)]),(3,.box 3 0),(5,.v false [(.int .i64,.nil)])],[(3,[(.int .i64,.nil),(.int .i64,.nil)])],[]⟩ 3000000 [(.ret,⟨[(4,.v false [(.int .i64,.nil)])],[],[]⟩),((.exit 0),⟨[],[],[]⟩)] 2 Ud Tryz.func136 0
def Ba9:Au:=As [Qs,Fj,g_3] (fun d=>(An3 d.1 d.2.1 d.2.2.1).val) (Fo Qs)
theorem Blg:Fq 53 Ba9:=mkF [Fz 77 Ps,Fz 52 Ml,Fz 51 Cy,Fz 136 Ahy] ⟨S3,Nb,Cp,An2,trivial⟩ Tryz.func53 0
def Ax0:Au:=As [Qs,Fj] (fun d=>(Ue d.1 d.2.1).val) (Fo g_3)
theorem Bba:Fq 139 Ax0:=mkF [Fz 136 Ahy,Fz 77 Ps] ⟨An2,S3,trivial⟩ Tryz.func139 0
def A7i:Au:=As [Qs,Fj,g_3] (fun d=>(Ahz d.1 d.2.1 d.2.2.1).val) fun r=>([rv Qs r.1,rv g_1 r.2],[])
theorem Bip:Fq 165 A7i:=mkF [Fz 136 Ahy,Fz 77 Ps,Fz 139 Ax0,Fz 51 Cy] ⟨An2,S3,Bba,Cp,trivial⟩ Tryz.func165 0
def Ax1:Au:=As [g_2,g_3] (fun d=>(Aa8 d.1 d.2.1).val) fun r=>([rv Qs r.1],[rv g_2 r.2])
theorem Bbb:Fn Tryz.prog 87 (.box [3] true true) Ax1:=Dg [(85,(.box [3] true true),Ec),Fz 88 Rb,(89,(.box [3] true true),Ja),Fz 53 Ba9,Fz 165 A7i] ⟨D8,Rc,I1,Blg,Bip,trivial⟩ ⟨[(0,.box 0 0),(5,.v false [(.sl 53 h_2,(.own 4000000))]),(6,.v false [(.int .i64,.nil)])],[(0,[(.sl 5 [.int .u8],(.pin 0)),(.int .i64,.nil),(.int .i64,.nil)])],[4000000]⟩ 4000000 [((.exit 0),⟨[(0,.box 0 0),(5,.v false [(.sl 53 h_2,(.own 4000000))])],[(0,[(.sl 5 [.int .u8],(.pin 0)),(.int .i64,.nil),(.int .i64,.nil)])],[4000000]⟩)] 3 L6 Tryz.func87 1
def Ax2:Au:=As [g_2] (fun d=>(Aa9 d.1).val) fun r=>([rv Lv r.1],[rv g_2 r.2])
theorem Bbc:Fn Tryz.prog 23 (.box [3] true true) Ax2:=Dg [(83,(.box [3] true true),Axd),(84,(.box [3] true true),I0),(85,(.box [3] true true),Ec),Fz 82 Aru,(86,(.box [3] true true),Axz),Fz 65 Ajq,(87,(.box [3] true true),Ax1)] ⟨Baq,I8,D8,A48,Ba8,Atj,Bbb,trivial⟩ ⟨[(0,.box 0 0),(2,.box 2 0),(3,.box 3 0),(4,.box 4 0),(5,.v false [(.int .i64,.nil)])],[(0,[(.sl 5 [.int .u8],(.pin 0)),(.int .i64,.nil),(.int .i64,.nil)]),(2,[(.sl 22 [.sl 5 [.int .u8]],(.own 5000000)),(.sl 5 [.int .u8],(.own 5000001)),(.sl 5 [.int .u8],(.own 5000002)),(.int .i64,.nil),(.int .i64,.nil),(.sl 88 Dy,(.own 5000003)),(.sl 53 h_2,(.own 5000004))]),(3,[(.sl 22 [.sl 5 [.int .u8]],(.own 5000005)),(.sl 5 [.int .u8],(.own 5000006)),(.sl 5 [.int .u8],(.own 5000007)),(.int .i64,.nil),(.int .i64,.nil),(.sl 88 Dy,(.own 5000008)),(.sl 53 h_2,(.own 5000009))]),(4,[(.int .i64,.nil),(.sl 88 Dy,(.own 5000010))])],[5000000,5000001,5000002,5000003,5000004,5000005,5000006,5000007,5000008,5000009,5000010]⟩ 5000000 [((.exit 0),⟨[(0,.box 0 0),(2,.box 2 0),(3,.box 3 0)],[(0,[(.sl 5 [.int .u8],(.pin 0)),(.int .i64,.nil),(.int .i64,.nil)]),(2,[(.sl 22 [.sl 5 [.int .u8]],(.own 5000000)),(.sl 5 [.int .u8],(.own 5000001)),(.sl 5 [.int .u8],(.own 5000002)),(.int .i64,.nil),(.int .i64,.nil),(.sl 88 Dy,(.own 5000003)),(.sl 53 h_2,(.own 5000004))]),(3,[(.sl 22 [.sl 5 [.int .u8]],(.own 5000005)),(.sl 5 [.int .u8],(.own 5000006)),(.sl 5 [.int .u8],(.own 5000007)),(.int .i64,.nil),(.int .i64,.nil),(.sl 88 Dy,(.own 5000008)),(.sl 53 h_2,(.own 5000009))])],[5000000,5000001,5000002,5000003,5000004,5000005,5000006,5000007,5000008,5000009]⟩)] 4 L7 Tryz.func23 1
def Atl:Au:=As [Gc] (fun d=>(Afc d.1).val) (Fo g_0)
theorem A9m:Fq 90 Atl:=Dg [Fz 144 Ua,Fz 143 Lf] ⟨Ww,Kp,trivial⟩ ⟨[(3,.v false [(.sl 5 [.int .u8],(.own 11000000))]),(4,.v false [(.int .i64,.nil)])],[],[11000000]⟩ 11000000 [((.exit 1),⟨[(3,.v false [(.sl 5 [.int .u8],(.own 11000000))])],[],[11000000]⟩)] 10 Js Tryz.func90 0
def Ax3:Au:=As [g_0,Fj] (fun d=>(Ajs d.1 d.2.1).val) (Fo g_0)
theorem Bbd:Fq 142 Ax3:=mkF [Fz 52 Ml,Fz 143 Lf] ⟨Nb,Kp,trivial⟩ Tryz.func142 0
def Atm:Au:=As [Fj,g_3,g_0,g_0,g_3] (fun d=>(Wy d.1 d.2.1 d.2.2.1 d.2.2.2.1 d.2.2.2.2.1).val) (Fo g_0)
theorem A9n:Fq 60 Atm:=mkF [Fz 52 Ml,Fz 51 Cy,Fz 142 Ax3,Fz 143 Lf] ⟨Nb,Cp,Bbd,Kp,trivial⟩ Tryz.func60 0
def Bbe:Au:=As [g_8,Fj,g_3,g_0,g_0,g_3] (fun d=>(An4 d.1 d.2.1 d.2.2.1 d.2.2.2.1 d.2.2.2.2.1 d.2.2.2.2.2.1).val) (Fo g_0)
theorem Blh:Fq 57 Bbe:=mkF [Fz 60 Atm,Fz 74 Asx,Fz 141 Awk] ⟨A9n,A13,Azx,trivial⟩ Tryz.func57 0
def An5:Au:=As [g_2,g_0] (fun d=>(An6 d.1 d.2.1).val) fun r=>([rv g_0 r.1],[rv g_2 r.2])
theorem Ax4:Fn Tryz.prog 92 (.box [3] true true) An5:=mkF [(85,(.box [3] true true),Ec),(169,(.box [3] true true),Wq)] ⟨D8,Aax,trivial⟩ Tryz.func92 1
def A2h:Au:=As [g_2] (fun d=>(An7 d.1).val) fun r=>([rv g_3 r.1,rv g_0 r.2.1],[rv g_2 r.2.2])
theorem Be9:Fn Tryz.prog 224 (.box [3] true true) A2h:=mkF [(85,(.box [3] true true),Ec),(84,(.box [3] true true),I0),(89,(.box [3] true true),Ja)] ⟨D8,I8,I1,trivial⟩ Tryz.func224 1
def An8:Au:=As [g_3,g_0,g_3,g_3] (fun d=>(An9 d.1 d.2.1 d.2.2.1 d.2.2.2.1).val) (Fo g_0)
theorem Ax5:Fq 218 An8:=mkF [Fz 51 Cy,Fz 143 Lf] ⟨Cp,Kp,trivial⟩ Tryz.func218 0
def Ax6:Au:=As [g_0,g_0,g_3] (fun d=>(Ajt d.1 d.2.1 d.2.2.1).val) (Fo g_0)
theorem Bbf:Fq 285 Ax6:=mkF [Fz 51 Cy,Fz 143 Lf,Fz 204 Zr] ⟨Cp,Kp,Abv,trivial⟩ Tryz.func285 0
def A2i:Au:=As [g_0,g_0,g_3] (fun d=>(Aoa d.1 d.2.1 d.2.2.1).val) (Fo g_0)
theorem Bfa:Fq 261 A2i:=Dg [Fz 51 Cy,Fz 285 Ax6] ⟨Cp,Bbf,trivial⟩ ⟨[(0,.v false [(.sl 5 [.int .u8],.ro)]),(1,.v false [(.sl 5 [.int .u8],.ro)]),(2,.v false [(.int .i64,.nil)]),(7,.v false [(.sl 5 [.int .u8],(.own 6000000))]),(8,.v false [(.int .i64,.nil)])],[],[6000000]⟩ 6000000 [((.exit 0),⟨[(2,.v false [(.int .i64,.nil)]),(7,.v false [(.sl 5 [.int .u8],(.own 6000000))])],[],[6000000]⟩)] 5 Nt Tryz.func261 0
def Bg1:Au:=As [g_0,g_0,g_0] (fun d=>(A5d d.1 d.2.1 d.2.2.1).val) (Fo g_0)
theorem Boc:Fq 226 Bg1:=Dg [Fz 261 A2i] ⟨Bfa,trivial⟩ ⟨[(2,.v false [(.sl 5 [.int .u8],.ro)]),(7,.v false [(.sl 5 [.int .u8],(.own 7000000))]),(8,.v false [(.sl 5 [.int .u8],(.own 7000001))]),(9,.v false [(.int .i64,.nil)])],[],[7000000,7000001]⟩ 7000000 [((.exit 0),⟨[(7,.v false [(.sl 5 [.int .u8],(.own 7000000))])],[],[7000000]⟩)] 6 V7 Tryz.func226 0
def Atn:Au:=As [g_3,Gc] (fun d=>(Afd d.1 d.2.1).val) (Fo g_0)
theorem A9o:Fq 160 Atn:=mkF [Fz 51 Cy,Fz 144 Ua,Fz 71 Ado,Fz 218 An8] ⟨Cp,Ww,Aje,Ax5,trivial⟩ Tryz.func160 0
def Azy:Au:=As [g_0,g_3,g_0,g_3,g_3,g_3,g_0] (fun d=>(Aob d.1 d.2.1 d.2.2.1 d.2.2.2.1 d.2.2.2.2.1 d.2.2.2.2.2.1 d.2.2.2.2.2.2.1).val) fun r=>([rv Gc r.1,rv g_1 r.2],[])
def Aoc:Fns:=[Fz 218 An8,Fz 71 Ado,Fz 205 Anm,Fz 226 Bg1,Fz 160 Atn,Fz 141 Awk]
theorem Bbg:CfgOk Tryz.prog (Dw Aoc):=Gk Mk I7 (show Kb Tryz.prog Aoc from⟨Ax5,Aje,Axm,Boc,A9o,Azx,trivial⟩)
def A2j:Sk:=⟨[(0,.v false [(.sl 5 [.int .u8],.ro)]),(1,.v false [(.int .i64,.nil)]),(14,.box 14 0),(17,.box 17 0),(18,.v false [(.int .i64,.nil)])],[(14,[(.int .i64,.nil),(.int .i64,.nil),(.sl 5 [.int .u8],(.own 7000000)),(.sl 5 [.int .u8],(.own 7000001)),(.int .i64,.nil),(.sl 5 [.int .u8],(.own 7000002)),(.sl 5 [.int .u8],(.own 7000003)),(.int .i64,.nil),(.int .i64,.nil),(.sl 5 [.int .u8],(.own 7000004)),(.sl 5 [.int .u8],(.own 7000005))]),(17,[(.int .i64,.nil),(.int .i64,.nil),(.sl 5 [.int .u8],(.own 7000006)),(.sl 5 [.int .u8],(.own 7000007)),(.int .i64,.nil),(.sl 5 [.int .u8],(.own 7000008)),(.sl 5 [.int .u8],(.own 7000009)),(.int .i64,.nil),(.int .i64,.nil),(.sl 5 [.int .u8],(.own 7000010)),(.sl 5 [.int .u8],(.own 7000011))])],[7000000,7000001,7000002,7000003,7000004,7000005,7000006,7000007,7000008,7000009,7000010,7000011]⟩
def A2k:List (Ex×Sk):=[((.exit 0),⟨[(0,.v false [(.sl 5 [.int .u8],.ro)]),(1,.v false [(.int .i64,.nil)]),(14,.box 14 0),(17,.box 17 0)],[(14,[(.int .i64,.nil),(.int .i64,.nil),(.sl 5 [.int .u8],(.own 7000000)),(.sl 5 [.int .u8],(.own 7000001)),(.int .i64,.nil),(.sl 5 [.int .u8],(.own 7000002)),(.sl 5 [.int .u8],(.own 7000003)),(.int .i64,.nil),(.int .i64,.nil),(.sl 5 [.int .u8],(.own 7000004)),(.sl 5 [.int .u8],(.own 7000005))]),(17,[(.int .i64,.nil),(.int .i64,.nil),(.sl 5 [.int .u8],(.own 7000006)),(.sl 5 [.int .u8],(.own 7000007)),(.int .i64,.nil),(.sl 5 [.int .u8],(.own 7000008)),(.sl 5 [.int .u8],(.own 7000009)),(.int .i64,.nil),(.int .i64,.nil),(.sl 5 [.int .u8],(.own 7000010)),(.sl 5 [.int .u8],(.own 7000011))])],[7000000,7000001,7000002,7000003,7000004,7000005,7000006,7000007,7000008,7000009,7000010,7000011]⟩)]
def Azz:Gu:=fun i st=>cond (Nat.beq i 6) (lam A2j 7000000 A2k O0 st) <| .fail
theorem Bfb (cx:Cx) (hp:cx.pin.length<=0):D9 Tryz.prog cx Tryz.f172.ntmps Azz (Bb Tryz.f172 0):=Et Bbg hp (De (by kernel_rfl:By (Bb Tryz.f172 0)=[]) trivial) (by kernel_rfl) (fun d=>(by kernel_rfl:bod (Dw Aoc) 0 Tryz.f172.ntmps Azz (Bb Tryz.f172 0) A2j 7000000 A2k d=O0 d))
theorem A7j:Fq 172 Azy:=Nn Bbg Tryz.func172 (by kernel_rfl) (by kernel_rfl) (fun cx b hp hb=>De (by kernel_rfl:By (Tryz.f172.body.getD .skip)=[Bb Tryz.f172 0]) ⟨Bfb cx hp,trivial⟩ b hb) (fun d=>(by kernel_rfl:H7 (Dw Aoc) 0 Azz Tryz.f172 .plain (mkA [g_0,g_3,g_0,g_3,g_3,g_3,g_0] d)=(Aob d.1 d.2.1 d.2.2.1 d.2.2.2.1 d.2.2.2.2.1 d.2.2.2.2.2.1 d.2.2.2.2.2.2.1).run fun r=>some ([rv Gc r.1,rv g_1 r.2],[])))
def A2l:Au:=As [g_2,Gc] (fun d=>(Aod d.1 d.2.1).val) fun r=>([rv Gc r.1],[rv g_2 r.2])
theorem Bfc:Fn Tryz.prog 225 (.box [3] true true) A2l:=mkF [Fz 170 Ano,(85,(.box [3] true true),Ec),(89,(.box [3] true true),Ja),(92,(.box [3] true true),An5)] ⟨Axn,D8,I1,Ax4,trivial⟩ Tryz.func225 1
def Ato:Au:=As [g_2,J0] (fun d=>(Afe d.1 d.2.1).val) fun r=>([rv Gc r.1],[rv g_2 r.2])
theorem A9p:Fn Tryz.prog 171 (.box [3] true true) Ato:=mkF [(224,(.box [3] true true),A2h),(47,(.box [3] true true),Kc),Fz 207 Ahw,(89,(.box [3] true true),Ja),Fz 172 Azy,(225,(.box [3] true true),A2l)] ⟨Be9,Kq,Ant,I1,A7j,Bfc,trivial⟩ Tryz.func171 1
def Ar0:Au:=As [g_3] (fun d=>(Acr d.1).val) (Fo g_0)
theorem A5e:Fq 173 Ar0:=mkF [Fz 51 Cy,Fz 143 Lf] ⟨Cp,Kp,trivial⟩ Tryz.func173 0
def A2m:Au:=As [g_2] (fun d=>(Aoe d.1).val) fun r=>([rv Fj r.1],[rv g_2 r.2])
theorem Bfd:Fn Tryz.prog 133 (.box [3] true true) A2m:=mkF [(47,(.box [3] true true),Kc),(85,(.box [3] true true),Ec),(169,(.box [3] true true),Wq),Fz 88 Rb] ⟨Kq,D8,Aax,Rc,trivial⟩ Tryz.func133 1
def A7k:Au:=As [g_2] (fun d=>(Atp d.1).val) fun r=>([rv g_3 r.1],[rv g_2 r.2])
theorem Biq:Fn Tryz.prog 48 (.box [3] true true) A7k:=mkF [(89,(.box [3] true true),Ja)] ⟨I1,trivial⟩ Tryz.func48 1
def A7l:Au:=As [g_2] (fun d=>(Atq d.1).val) fun r=>([rv Fj r.1],[rv g_2 r.2])
theorem Bir:Fn Tryz.prog 49 (.box [3] true true) A7l:=mkF [(133,(.box [3] true true),A2m),(85,(.box [3] true true),Ec),(48,(.box [3] true true),A7k),(89,(.box [3] true true),Ja)] ⟨Bfd,D8,Biq,I1,trivial⟩ Tryz.func49 1
def Atr:Au:=As [g_2,M8] (fun d=>(Aff d.1 d.2.1).val) fun r=>([rv Fj r.1,rv Gc r.2.1],[rv g_2 r.2.2])
theorem A9q:Fn Tryz.prog 93 (.box [3] true false) Atr:=mkF [(47,(.box [3] true true),Kc),(85,(.box [3] true true),Ec),Fz 88 Rb,(171,(.box [3] true true),Ato),Fz 172 Azy,Fz 173 Ar0,(49,(.box [3] true true),A7l)] ⟨Kq,D8,Rc,A9p,A7j,A5e,Bir,trivial⟩ Tryz.func93 1
def Ats:Au:=As [g_2,Lv] (fun d=>(Afg d.1 d.2.1).val) fun r=>([rv g_3 r.1,rv Fj r.2.1,rv g_0 r.2.2.1],[rv g_2 r.2.2.2])
theorem A9r:Fn Tryz.prog 24 (.box [3] true true) Ats:=mkF [(85,(.box [3] true true),Ec),Fz 88 Rb,(89,(.box [3] true true),Ja),(84,(.box [3] true true),I0),Fz 90 Atl,(47,(.box [3] true true),Kc),Fz 57 Bbe,Fz 91 Ae4,(92,(.box [3] true true),An5),(93,(.box [3] true false),Atr)] ⟨D8,Rc,I1,I8,A9m,Kq,Blh,Ary,Ax4,A9q,trivial⟩ Tryz.func24 1
def Alm:Au:=As [g_0] (fun d=>(S4 d.1).val) fun r=>([rv Lv r.1,rv g_3 r.2.1,rv Fj r.2.2.1,rv g_0 r.2.2.2],[])
theorem Ah0:Fq 7 Alm:=mkF [(22,.ret,A67),(23,(.box [3] true true),Ax2),(24,(.box [3] true true),Ats)] ⟨Bih,Bbc,A9r,trivial⟩ Tryz.func7 0
def Cz:Au:=As [g_0] (fun d=>(Att d.1).val) (Fo g_0)
theorem Cr:Fq 95 Cz:=mkF [] trivial Tryz.func95 0
def Atu:Au:=As [g_4] (fun d=>(Afh d.1).val) (Fo g_4)
theorem A9s:Fq 94 Atu:=Dg [Fz 95 Cz] ⟨Cr,trivial⟩ ⟨[(3,.v false [(.sl 22 [.sl 5 [.int .u8]],(.own 4000000))]),(7,.v false [(.sl 22 [.sl 5 [.int .u8]],.ro)]),(8,.v false [(.int .i64,.nil)]),(9,.v false [(.int .i64,.nil)])],[],[4000000]⟩ 4000000 [((.exit 0),⟨[(3,.v false [(.sl 22 [.sl 5 [.int .u8]],(.own 4000000))])],[],[4000000]⟩)] 3 K4 Tryz.func94 0
def Aju:Au:=As [Oz] (fun d=>(Ajv d.1).val) (Fo Oz)
theorem Atv:Fq 286 Aju:=mkF [] trivial Tryz.func286 0
def Adq:Au:=As [Q6] (fun d=>(Aof d.1).val) (Fo Q6)
theorem Ajw:Fq 262 Adq:=mkF [Fz 95 Cz,Fz 286 Aju] ⟨Cr,Atv,trivial⟩ Tryz.func262 0
def Lg:Au:=As [J0] (fun d=>(Afi d.1).val) (Fo J0)
theorem L8:Fq 227 Lg:=mkF [Fz 95 Cz,Fz 262 Adq] ⟨Cr,Ajw,trivial⟩ Tryz.func227 0
def Pv:Au:=As [Ka] (fun d=>(Acs d.1).val) (Fo Ka)
theorem S5:Fq 228 Pv:=Dg [Fz 95 Cz] ⟨Cr,trivial⟩ ⟨[(2,.box 2 0),(3,.box 3 0),(10,.v false [(.sl 188 h_4,.ro)]),(11,.v false [(.int .i64,.nil)]),(12,.v false [(.int .i64,.nil)])],[(2,[(.int .i64,.nil),(.int .i64,.nil),(.sl 188 h_4,(.own 4000000))]),(3,[(.int .i64,.nil),(.int .i64,.nil),(.sl 188 h_4,(.own 4000001))])],[4000000,4000001]⟩ 4000000 [((.exit 0),⟨[(2,.box 2 0),(3,.box 3 0)],[(2,[(.int .i64,.nil),(.int .i64,.nil),(.sl 188 h_4,(.own 4000000))]),(3,[(.int .i64,.nil),(.int .i64,.nil),(.sl 188 h_4,(.own 4000001))])],[4000000,4000001]⟩)] 3 Jt Tryz.func228 0
def Nu:Au:=As [M8] (fun d=>(Afj d.1).val) (Fo M8)
theorem Pw:Fq 174 Nu:=mkF [Fz 95 Cz,Fz 227 Lg,Fz 228 Pv] ⟨Cr,L8,S5,trivial⟩ Tryz.func174 0
def Aba:Au:=As [g_9] (fun d=>(Ajx d.1).val) (Fo g_9)
theorem Afk:Fq 96 Aba:=Dg [Fz 174 Nu] ⟨Pw,trivial⟩ ⟨[(2,.box 2 0),(3,.box 3 0),(10,.v false [(.sl 88 Dy,.ro)]),(11,.v false [(.int .i64,.nil)]),(12,.v false [(.int .i64,.nil)])],[(2,[(.int .i64,.nil),(.sl 88 Dy,(.own 4000000))]),(3,[(.int .i64,.nil),(.sl 88 Dy,(.own 4000001))])],[4000000,4000001]⟩ 4000000 [((.exit 0),⟨[(2,.box 2 0),(3,.box 3 0)],[(2,[(.int .i64,.nil),(.sl 88 Dy,(.own 4000000))]),(3,[(.int .i64,.nil),(.sl 88 Dy,(.own 4000001))])],[4000000,4000001]⟩)] 3 L9 Tryz.func96 0
def Qu:Au:=As [Qs] (fun d=>(Wz d.1).val) (Fo Qs)
theorem Vn:Fq 97 Qu:=mkF [] trivial Tryz.func97 0
def Aln:Au:=As [Lv] (fun d=>(Zs d.1).val) (Fo Lv)
theorem A2n:Fq 25 Aln:=mkF [Fz 94 Atu,Fz 95 Cz,Fz 96 Aba,Fz 97 Qu] ⟨A9s,Cr,Afk,Vn,trivial⟩ Tryz.func25 0
def B6:Au:=As [g_3,g_3,g_3] (fun d=>(Aog d.1 d.2.1 d.2.2.1).val) (Fo g_1)
theorem Bx:Fq 26 B6:=mkF [] trivial Tryz.func26 0
def Ah1:Au:=As [g_8] (fun d=>(A7m d.1).val) (Fo g_1)
theorem Aoh:Fq 34 Ah1:=mkF [] trivial Tryz.func34 0
def Aoi:Au:=As [g_5] (fun d=>(Aoj d.1).val) (Fo g_1)
theorem Ax7:Fq 35 Aoi:=mkF [Fz 26 B6] ⟨Bx,trivial⟩ Tryz.func35 0
def Az0:Au:=As [g_9] (fun d=>(Aok d.1).val) (Fo g_3)
theorem A7n:Fq 15 Az0:=Dg [] trivial ⟨[(3,.v false [(.int .i64,.nil)]),(7,.v false [(.sl 88 Dy,.ro)]),(8,.v false [(.int .i64,.nil)]),(9,.v false [(.int .i64,.nil)])],[],[]⟩ 4000000 [((.exit 0),⟨[(3,.v false [(.int .i64,.nil)])],[],[]⟩)] 3 Kd Tryz.func15 0
def Hb:Au:=As [g_0] (fun d=>(Ax8 d.1).val) (Fo g_1)
theorem Hc:Fq 118 Hb:=mkF [] trivial Tryz.func118 0
def Hj:Au:=As [g_0,g_0] (fun d=>(Ar1 d.1 d.2.1).val) (Fo g_1)
theorem Hv:Fq 44 Hj:=mkF [] trivial Tryz.func44 0
def Atw:Au:=As [g_6,g_6] (fun d=>(Afl d.1 d.2.1).val) (Fo g_1)
theorem A9t:Fq 271 Atw:=Dg [] trivial ⟨[(1,.v false [(.sl 3 [.int .i64],.ro)]),(12,.v false [(.sl 3 [.int .i64],.ro)]),(13,.v false [(.int .i64,.nil)]),(14,.v false [(.int .i64,.nil)])],[],[]⟩ 5000000 [(.ret,⟨[(4,.v false [(.bool,.nil)])],[],[]⟩),((.exit 0),⟨[],[],[]⟩)] 4 Alo Tryz.func271 0
def Aol:Au:=As [Q6,Q6] (fun d=>(Aom d.1 d.2.1).val) (Fo g_1)
theorem Ax9:Fq 244 Aol:=mkF [Fz 44 Hj,Fz 271 Atw] ⟨Hv,A9t,trivial⟩ Tryz.func244 0
def Alp:Au:=As [J0] (fun d=>(Zt d.1).val) (Fo g_1)
theorem A2o:Fq 195 Alp:=mkF [Fz 244 Aol] ⟨Ax9,trivial⟩ Tryz.func195 0
def S6:Au:=As [g_3] (fun d=>(Aon d.1).val) (Fo g_1)
theorem Uf:Fq 231 S6:=mkF [] trivial Tryz.func231 0
def W0:Au:=As [g_6,g_3] (fun d=>(Afm d.1 d.2.1).val) (Fo g_1)
theorem Acu:Fq 292 W0:=Dg [Fz 26 B6] ⟨Bx,trivial⟩ ⟨[(0,.v false [(.sl 3 [.int .i64],.ro)]),(1,.v false [(.int .i64,.nil)]),(7,.v false [(.sl 3 [.int .i64],.ro)]),(8,.v false [(.int .i64,.nil)]),(9,.v false [(.int .i64,.nil)])],[],[]⟩ 3000000 [(.ret,⟨[(4,.v false [(.bool,.nil)])],[],[]⟩),((.exit 0),⟨[(0,.v false [(.sl 3 [.int .i64],.ro)]),(1,.v false [(.int .i64,.nil)])],[],[]⟩)] 2 Nv Tryz.func292 0
def Aoo:Au:=As [Oz,g_3] (fun d=>(Aop d.1 d.2.1).val) (Fo g_1)
theorem Aya:Fq 293 Aoo:=mkF [] trivial Tryz.func293 0
def Atx:Au:=As [Oz] (fun d=>(Aty d.1).val) (Fo g_1)
theorem A2p:Fq 272 Atx:=Dg [Fz 26 B6,Fz 292 W0,Fz 293 Aoo] ⟨Bx,Acu,Aya,trivial⟩ ⟨[(1,.box 1 0),(3,.v false [(.int .i64,.nil)])],[(1,[(.int .i64,.nil),(.sl 3 [.int .i64],.ro)])],[]⟩ 5000000 [(.ret,⟨[(2,.v false [(.bool,.nil)])],[],[]⟩),((.exit 0),⟨[(1,.box 1 0)],[(1,[(.int .i64,.nil),(.sl 3 [.int .i64],.ro)])],[]⟩)] 4 Qi Tryz.func272 0
def Afn:Au:=As [Q6] (fun d=>(Az1 d.1).val) (Fo g_1)
theorem Ah2:Fq 245 Afn:=mkF [Fz 26 B6,Fz 272 Atx] ⟨Bx,A2p,trivial⟩ Tryz.func245 0
def A7o:Au:=As [J0] (fun d=>(Atz d.1).val) (Fo g_1)
theorem Bis:Fq 246 A7o:=mkF [Fz 244 Aol,Fz 245 Afn,Fz 26 B6] ⟨Ax9,Ah2,Bx,trivial⟩ Tryz.func246 0
def Mm:Au:=As [J0] (fun d=>(Aoq d.1).val) (Fo g_1)
theorem Nc:Fq 196 Mm:=mkF [Fz 231 S6,Fz 118 Hb,Fz 245 Afn,Fz 246 A7o] ⟨Uf,Hc,Ah2,Bis,trivial⟩ Tryz.func196 0
def Gv:Au:=As [Fj] (fun d=>(Aor d.1).val) (Fo g_1)
theorem Gs:Fq 27 Gv:=mkF [Fz 26 B6] ⟨Bx,trivial⟩ Tryz.func27 0
def Abb:Au:=As [Ka] (fun d=>(Abc d.1).val) (Fo g_1)
def Ug:Fns:=[Fz 27 Gv,Fz 118 Hb,Fz 26 B6]
theorem Ajy:CfgOk Tryz.prog (Dw Ug):=Gk Mk I7 (show Kb Tryz.prog Ug from⟨Gs,Hc,Bx,trivial⟩)
def Ar2:Sk:=⟨[(1,.box 1 0),(18,.v false [(.sl 188 h_4,.ro)]),(19,.v false [(.int .i64,.nil)]),(20,.v false [(.int .i64,.nil)])],[(1,[(.int .i64,.nil),(.int .i64,.nil),(.sl 188 h_4,.ro)])],[]⟩
def Ar3:List (Ex×Sk):=[(.ret,⟨[(2,.v false [(.bool,.nil)])],[],[]⟩),((.exit 0),⟨[],[],[]⟩)]
def Ar4:Sk:=⟨[(1,.box 1 0),(4,.box 4 0),(18,.v false [(.sl 188 h_4,.ro)]),(19,.v false [(.int .i64,.nil)]),(20,.v false [(.int .i64,.nil)]),(51,.v false [(.sl 188 h_4,.ro)]),(52,.v false [(.int .i64,.nil)]),(53,.v false [(.int .i64,.nil)])],[(1,[(.int .i64,.nil),(.int .i64,.nil),(.sl 188 h_4,.ro)]),(4,[(.int .i64,.nil),(.int .i64,.nil),(.sl 5 [.int .u8],.ro),(.int .i64,.nil)])],[]⟩
def Ar5:List (Ex×Sk):=[(.ret,⟨[(2,.v false [(.bool,.nil)])],[],[]⟩),((.exit 2),⟨[(1,.box 1 0),(18,.v false [(.sl 188 h_4,.ro)]),(19,.v false [(.int .i64,.nil)]),(20,.v false [(.int .i64,.nil)])],[(1,[(.int .i64,.nil),(.int .i64,.nil),(.sl 188 h_4,.ro)])],[]⟩)]
def Uh:Gu:=fun i st=>cond (Nat.beq i 9) (lam Ar4 10000000 Ar5 J1 st) <| cond (Nat.beq i 4) (lam Ar2 5000000 Ar3 Ma st) <| .fail
theorem A5f (cx:Cx) (hp:cx.pin.length<=0):D9 Tryz.prog cx Tryz.f197.ntmps Uh (Bb Tryz.f197 1):=Et Ajy hp (De (by kernel_rfl:By (Bb Tryz.f197 1)=[]) trivial) (by kernel_rfl) (fun d=>(by kernel_rfl:bod (Dw Ug) 0 Tryz.f197.ntmps Uh (Bb Tryz.f197 1) Ar4 10000000 Ar5 d=J1 d))
theorem A5g (cx:Cx) (hp:cx.pin.length<=0):D9 Tryz.prog cx Tryz.f197.ntmps Uh (Bb Tryz.f197 0):=Et Ajy hp (De (by kernel_rfl:By (Bb Tryz.f197 0)=[Bb Tryz.f197 1]) ⟨A5f cx hp,trivial⟩) (by kernel_rfl) (fun d=>(by kernel_rfl:bod (Dw Ug) 0 Tryz.f197.ntmps Uh (Bb Tryz.f197 0) Ar2 5000000 Ar3 d=Ma d))
theorem Afo:Fq 197 Abb:=Nn Ajy Tryz.func197 (by kernel_rfl) (by kernel_rfl) (fun cx b hp hb=>De (by kernel_rfl:By (Tryz.f197.body.getD .skip)=[Bb Tryz.f197 0]) ⟨A5g cx hp,trivial⟩ b hb) (fun d=>(by kernel_rfl:H7 (Dw Ug) 0 Uh Tryz.f197 .plain (mkA [Ka] d)=(Abc d.1).run fun r=>some ([rv g_1 r],[])))
def W1:Au:=As [M8] (fun d=>(Aos d.1).val) (Fo g_1)
theorem Abd:Fq 117 W1:=mkF [Fz 26 B6,Fz 118 Hb,Fz 195 Alp,Fz 196 Mm,Fz 44 Hj,Fz 197 Abb] ⟨Bx,Hc,A2o,Nc,Hv,Afo,trivial⟩ Tryz.func117 0
def W2:Au:=As [g_9,g_0] (fun d=>(Aot d.1 d.2.1).val) (Fo g_3)
theorem Abe:Fq 107 W2:=Dg [Fz 44 Hj] ⟨Hv,trivial⟩ ⟨[(1,.v false [(.sl 5 [.int .u8],.ro)]),(8,.v false [(.sl 88 Dy,.ro)]),(9,.v false [(.int .i64,.nil)]),(10,.v false [(.int .i64,.nil)])],[],[]⟩ 3000000 [(.ret,⟨[(4,.v false [(.int .i64,.nil)])],[],[]⟩),((.exit 0),⟨[],[],[]⟩)] 2 Rh Tryz.func107 0
def Ah3:Au:=As [g_9] (fun d=>(At0 d.1).val) (Fo g_1)
theorem Aou:Fq 36 Ah3:=Dg [Fz 26 B6,Fz 15 Az0,Fz 117 W1,Fz 107 W2] ⟨Bx,A7n,Abd,Abe,trivial⟩ ⟨[(1,.box 1 0),(23,.v false [(.sl 88 Dy,.ro)]),(24,.v false [(.int .i64,.nil)]),(25,.v false [(.int .i64,.nil)])],[(1,[(.int .i64,.nil),(.sl 88 Dy,.ro)])],[]⟩ 5000000 [(.ret,⟨[(2,.v false [(.bool,.nil)])],[],[]⟩),((.exit 0),⟨[],[],[]⟩)] 4 Ui Tryz.func36 0
def Ri:Au:=As [Qs,Fj] (fun d=>(Afp d.1 d.2.1).val) (Fo g_3)
theorem Va:Fq 98 Ri:=Dg [] trivial ⟨[(3,.box 3 0),(7,.v false [(.sl 53 h_2,.ro)]),(8,.v false [(.int .i64,.nil)]),(9,.v false [(.int .i64,.nil)])],[(3,[(.int .i64,.nil),(.int .i64,.nil)])],[]⟩ 3000000 [(.ret,⟨[(4,.v false [(.int .i64,.nil)])],[],[]⟩),((.exit 0),⟨[],[],[]⟩)] 2 Nw Tryz.func98 0
def Px:Au:=As [Qs] (fun d=>(Acv d.1).val) (Fo g_1)
theorem S8:Fq 37 Px:=Dg [Fz 27 Gv,Fz 26 B6,Fz 98 Ri] ⟨Gs,Bx,Va,trivial⟩ ⟨[(0,.v false [(.sl 53 h_2,.ro)]),(8,.v false [(.sl 53 h_2,.ro)]),(9,.v false [(.int .i64,.nil)]),(10,.v false [(.int .i64,.nil)])],[],[]⟩ 5000000 [(.ret,⟨[(2,.v false [(.bool,.nil)])],[],[]⟩),((.exit 0),⟨[],[],[]⟩)] 4 Mn Tryz.func37 0
def Ab0:Au:=As [g_0] (fun d=>(At1 d.1).val) (Fo g_1)
theorem Adr:Fq 38 Ab0:=mkF [Fz 26 B6] ⟨Bx,trivial⟩ Tryz.func38 0
def Afq:Au:=As [Lv] (fun d=>(W3 d.1).val) (Fo g_1)
def Rj:Fns:=[Fz 26 B6,Fz 34 Ah1,Fz 35 Aoi,Fz 36 Ah3,Fz 37 Px,Fz 38 Ab0]
theorem Afr:CfgOk Tryz.prog (Dw Rj):=Gk Mk I7 (show Kb Tryz.prog Rj from⟨Bx,Aoh,Ax7,Aou,S8,Adr,trivial⟩)
def Ah4:Sk:=⟨[(1,.box 1 0),(49,.v false [(.sl 88 Dy,.ro)]),(50,.v false [(.int .i64,.nil)]),(51,.v false [(.int .i64,.nil)])],[(1,[(.sl 22 [.sl 5 [.int .u8]],.ro),(.sl 5 [.int .u8],.ro),(.sl 5 [.int .u8],.ro),(.int .i64,.nil),(.int .i64,.nil),(.sl 88 Dy,.ro),(.sl 53 h_2,.ro)])],[]⟩
def Ah5:List (Ex×Sk):=[(.ret,⟨[(2,.v false [(.bool,.nil)])],[],[]⟩),((.exit 2),⟨[],[],[]⟩)]
def Alq:Sk:=⟨[(1,.box 1 0),(37,.v false [(.sl 22 [.sl 5 [.int .u8]],.ro)]),(38,.v false [(.int .i64,.nil)]),(39,.v false [(.int .i64,.nil)])],[(1,[(.sl 22 [.sl 5 [.int .u8]],.ro),(.sl 5 [.int .u8],.ro),(.sl 5 [.int .u8],.ro),(.int .i64,.nil),(.int .i64,.nil),(.sl 88 Dy,.ro),(.sl 53 h_2,.ro)])],[]⟩
def Alr:List (Ex×Sk):=[(.ret,⟨[(2,.v false [(.bool,.nil)])],[],[]⟩),((.exit 0),⟨[(1,.box 1 0)],[(1,[(.sl 22 [.sl 5 [.int .u8]],.ro),(.sl 5 [.int .u8],.ro),(.sl 5 [.int .u8],.ro),(.int .i64,.nil),(.int .i64,.nil),(.sl 88 Dy,.ro),(.sl 53 h_2,.ro)])],[]⟩)]
def Rk:Gu:=fun i st=>cond (Nat.beq i 4) (lam Alq 5000000 Alr K5 st) <| cond (Nat.beq i 10) (lam Ah4 11000000 Ah5 Ju st) <| .fail
theorem A2q (cx:Cx) (hp:cx.pin.length<=0):D9 Tryz.prog cx Tryz.f9.ntmps Rk (Bb Tryz.f9 0):=Et Afr hp (De (by kernel_rfl:By (Bb Tryz.f9 0)=[]) trivial) (by kernel_rfl) (fun d=>(by kernel_rfl:bod (Dw Rj) 0 Tryz.f9.ntmps Rk (Bb Tryz.f9 0) Alq 5000000 Alr d=K5 d))
theorem Az2 (cx:Cx) (hp:cx.pin.length<=0):D9 Tryz.prog cx Tryz.f9.ntmps Rk (Bb Tryz.f9 1):=Et Afr hp (De (by kernel_rfl:By (Bb Tryz.f9 1)=[]) trivial) (by kernel_rfl) (fun d=>(by kernel_rfl:bod (Dw Rj) 0 Tryz.f9.ntmps Rk (Bb Tryz.f9 1) Ah4 11000000 Ah5 d=Ju d))
theorem Ar6:Fq 9 Afq:=Nn Afr Tryz.func9 (by kernel_rfl) (by kernel_rfl) (fun cx b hp hb=>De (by kernel_rfl:By (Tryz.f9.body.getD .skip)=[Bb Tryz.f9 0,Bb Tryz.f9 1]) ⟨A2q cx hp,Az2 cx hp,trivial⟩ b hb) (fun d=>(by kernel_rfl:H7 (Dw Rj) 0 Rk Tryz.f9 .plain (mkA [Lv] d)=(W3 d.1).run fun r=>some ([rv g_1 r],[])))
def Bbh:Au:=As [Qs,Fj,g_3] (fun d=>(Az3 d.1 d.2.1 d.2.2.1).val) (Fo Qs)
theorem Bli:Fq 28 Bbh:=mkF [Fz 97 Qu,Fz 37 Px,Fz 27 Gv,Fz 26 B6,Fz 98 Ri] ⟨Vn,S8,Gs,Bx,Va,trivial⟩ Tryz.func28 0
def At2:Au:=As [g_8,g_3] (fun d=>(At3 d.1 d.2.1).val) fun r=>([rv g_0 r.1],[rv g_8 r.2])
theorem A2r:Fn Tryz.prog 43 (.box [3] false true) At2:=mkF [Fz 95 Cz] ⟨Cr,trivial⟩ Tryz.func43 1
def Bg2:Au:=As [g_0,g_3,g_3] (fun d=>(A5h d.1 d.2.1 d.2.2.1).val) fun r=>([rv g_0 r.1,rv g_1 r.2],[])
theorem Bod:Fq 198 Bg2:=mkF [] trivial Tryz.func198 0
def Az4:Au:=As [g_0,g_3,g_3] (fun d=>(Az5 d.1 d.2.1 d.2.2.1).val) fun r=>([rv g_3 r.1,rv g_3 r.2.1,rv g_1 r.2.2],[])
theorem A7p:Fq 124 Az4:=Dg [Fz 198 Bg2] ⟨Bod,trivial⟩ ⟨[(1,.v false [(.int .i64,.nil)]),(2,.v false [(.int .i64,.nil)]),(11,.v false [(.int .i64,.nil)]),(29,.v false [(.sl 5 [.int .u8],(.own 9000000))]),(30,.v false [(.int .i64,.nil)]),(31,.v false [(.int .i64,.nil)])],[],[9000000]⟩ 9000000 [((.exit 0),⟨[(1,.v false [(.int .i64,.nil)]),(2,.v false [(.int .i64,.nil)]),(11,.v false [(.int .i64,.nil)])],[],[]⟩)] 8 S9 Tryz.func124 0
def A2s:Au:=As [g_8,g_3] (fun d=>(Aov d.1 d.2.1).val) fun r=>([rv g_3 r.1],[rv g_8 r.2])
theorem Bfe:Fn Tryz.prog 42 (.box [3] false true) A2s:=mkF [(43,(.box [3] false true),At2),Fz 124 Az4] ⟨A2r,A7p,trivial⟩ Tryz.func42 1
def O5:Au:=As [g_3] (fun d=>(Aow d.1).val) (Fo g_1)
theorem Qj:Fq 31 O5:=mkF [Fz 26 B6] ⟨Bx,trivial⟩ Tryz.func31 0
def A2t:Au:=As [g_3,g_3] (fun d=>(Aox d.1 d.2.1).val) (Fo g_1)
theorem Bff:Fq 119 A2t:=mkF [] trivial Tryz.func119 0
def Ar7:Au:=As [Gc,Gc] (fun d=>(Acw d.1 d.2.1).val) (Fo g_1)
theorem A5i:Fq 120 Ar7:=mkF [Fz 44 Hj] ⟨Hv,trivial⟩ Tryz.func120 0
def H4:Au:=As [Gc] (fun d=>(Ajz d.1).val) (Fo g_1)
theorem Ia:Fq 39 H4:=mkF [Fz 26 B6,Fz 118 Hb,Fz 31 O5,Fz 119 A2t,Fz 120 Ar7] ⟨Bx,Hc,Qj,Bff,A5i,trivial⟩ Tryz.func39 0
def Hk:Au:=As [g_4] (fun d=>(Aoy d.1).val) (Fo g_0)
theorem Hd:Fq 122 Hk:=Dg [] trivial ⟨[(3,.v false [(.sl 5 [.int .u8],(.own 4000000))]),(7,.v false [(.sl 22 [.sl 5 [.int .u8]],.ro)]),(8,.v false [(.int .i64,.nil)]),(9,.v false [(.int .i64,.nil)])],[],[4000000]⟩ 4000000 [((.exit 0),⟨[(3,.v false [(.sl 5 [.int .u8],(.own 4000000))])],[],[4000000]⟩)] 3 Nx Tryz.func122 0
def Lh:Au:=As [g_0,g_3,g_3] (fun d=>(Bbi d.1 d.2.1 d.2.2.1).val) (Fo g_0)
theorem Kr:Fq 123 Lh:=Dg [] trivial ⟨[(1,.v false [(.int .i64,.nil)]),(7,.v false [(.sl 5 [.int .u8],(.own 6000000))]),(8,.v false [(.int .i64,.nil)])],[],[6000000]⟩ 6000000 [((.exit 0),⟨[(7,.v false [(.sl 5 [.int .u8],(.own 6000000))])],[],[6000000]⟩)] 5 A2u Tryz.func123 0
def Afs:Au:=As [Gc] (fun d=>(Aft d.1).val) (Fo g_0)
theorem Ar8:Fq 41 Afs:=mkF [Fz 39 H4,Fz 122 Hk,Fz 123 Lh] ⟨Ia,Hd,Kr,trivial⟩ Tryz.func41 0
def At4:Au:=As [g_0] (fun d=>(Afu d.1).val) fun r=>([rv Gc r.1,rv g_1 r.2],[])
theorem A9u:Fq 14 At4:=mkF [(42,(.box [3] false true),A2s),(43,(.box [3] false true),At2),Fz 31 O5,Fz 39 H4,Fz 41 Afs,Fz 44 Hj] ⟨Bfe,A2r,Qj,Ia,Ar8,Hv,trivial⟩ Tryz.func14 0
def Aoz:Au:=As [g_9,Fj] (fun d=>(Az6 d.1 d.2.1).val) (Fo g_1)
theorem At5:Fq 12 Aoz:=Dg [] trivial ⟨[(3,.box 3 0),(8,.v false [(.sl 88 Dy,.ro)]),(9,.v false [(.int .i64,.nil)]),(10,.v false [(.int .i64,.nil)])],[(3,[(.int .i64,.nil),(.int .i64,.nil)])],[]⟩ 3000000 [(.ret,⟨[(4,.v false [(.bool,.nil)])],[],[]⟩),((.exit 0),⟨[],[],[]⟩)] 2 W4 Tryz.func12 0
def Aj0:Au:=As [Qs,Fj] (fun d=>(Abf d.1 d.2.1).val) (Fo g_3)
theorem At6:Fq 116 Aj0:=mkF [Fz 98 Ri,Fz 37 Px] ⟨Va,S8,trivial⟩ Tryz.func116 0
def Ao0:Au:=As [Lv,Fj,g_3] (fun d=>(Ao1 d.1 d.2.1 d.2.2.1).val) (Fo g_1)
theorem Ayb:Fq 99 Ao0:=mkF [Fz 12 Aoz,Fz 116 Aj0] ⟨At5,At6,trivial⟩ Tryz.func99 0
def A7q:Au:=As [] (fun d=>(A7r).val) (Fo g_6)
theorem Bit:Fq 304 A7q:=mkF [] trivial Tryz.func304 0
def Ayc:Au:=As [] (fun d=>(Ayd).val) (Fo Bao)
theorem Bbj:Fq 289 Ayc:=mkF [Fz 304 A7q] ⟨Bit,trivial⟩ Tryz.func289 0
def Ao2:Au:=As [Bao] (fun d=>(Ao3 d.1).val) (Fo g_1)
theorem Aye:Fq 300 Ao2:=mkF [Fz 292 W0,Fz 26 B6] ⟨Acu,Bx,trivial⟩ Tryz.func300 0
def A5j:Au:=As [g_3,g_3] (fun d=>(A5k d.1 d.2.1).val) (Fo g_3)
theorem Bbk:Fq 309 A5j:=mkF [] trivial Tryz.func309 0
def At7:Au:=As [g_0] (fun d=>(W5 d.1).val) (Fo g_6)
def Rl:Fns:=[Fz 124 Az4,Fz 309 A5j]
theorem Afv:CfgOk Tryz.prog (Dw Rl):=Gk Mk I7 (show Kb Tryz.prog Rl from⟨A7p,Bbk,trivial⟩)
def Als:Sk:=⟨[(3,.v false [(.sl 3 [.int .i64],(.own 10000000))]),(5,.v false [(.int .i64,.nil)])],[],[10000000]⟩
def Alt:List (Ex×Sk):=[((.exit 2),⟨[(3,.v false [(.sl 3 [.int .i64],(.own 10000000))])],[],[10000000]⟩)]
def Alu:Sk:=⟨[(0,.v false [(.sl 5 [.int .u8],.ro)]),(3,.v false [(.sl 3 [.int .i64],(.own 6000000))]),(4,.v false [(.int .i64,.nil)])],[],[6000000]⟩
def Alv:List (Ex×Sk):=[((.exit 0),⟨[(3,.v false [(.sl 3 [.int .i64],(.own 6000000))])],[],[6000000]⟩)]
def Rm:Gu:=fun i st=>cond (Nat.beq i 5) (lam Alu 6000000 Alv K6 st) <| cond (Nat.beq i 9) (lam Als 10000000 Alt K7 st) <| .fail
theorem A2v (cx:Cx) (hp:cx.pin.length<=0):D9 Tryz.prog cx Tryz.f308.ntmps Rm (Bb Tryz.f308 0):=Et Afv hp (De (by kernel_rfl:By (Bb Tryz.f308 0)=[]) trivial) (by kernel_rfl) (fun d=>(by kernel_rfl:bod (Dw Rl) 0 Tryz.f308.ntmps Rm (Bb Tryz.f308 0) Alu 6000000 Alv d=K6 d))
theorem A2w (cx:Cx) (hp:cx.pin.length<=0):D9 Tryz.prog cx Tryz.f308.ntmps Rm (Bb Tryz.f308 1):=Et Afv hp (De (by kernel_rfl:By (Bb Tryz.f308 1)=[]) trivial) (by kernel_rfl) (fun d=>(by kernel_rfl:bod (Dw Rl) 0 Tryz.f308.ntmps Rm (Bb Tryz.f308 1) Als 10000000 Alt d=K7 d))
theorem A9v:Fq 308 At7:=Nn Afv Tryz.func308 (by kernel_rfl) (by kernel_rfl) (fun cx b hp hb=>De (by kernel_rfl:By (Tryz.f308.body.getD .skip)=[Bb Tryz.f308 0,Bb Tryz.f308 1]) ⟨A2v cx hp,A2w cx hp,trivial⟩ b hb) (fun d=>(by kernel_rfl:H7 (Dw Rl) 0 Rm Tryz.f308 .plain (mkA [g_0] d)=(W5 d.1).run fun r=>some ([rv g_6 r],[])))
theorem Blj (n:Int) (w:World) (h0:0<=n) (h1:n<=63):
  Calls Tryz.prog 310 #[.int .i64 n] w (Ret w (.int .i64 (Uj[n.toNat]?.getD 0))):=by
 have hx: ∃x,Uj[n.toNat]? =some x:=⟨_,List.getElem?_eq_getElem (by simp[Uj];omega)⟩
 obtain⟨x,hx⟩:=hx
 have hcell:(At8 256 w A2x).cell? ⟨w.heap.size,n.toNat,none⟩=some (.int .i64 x):=by
  rw[Bfg];unfold A2x;rw[List.getElem?_toArray,List.getElem?_map,hx];rfl
 rw[hx]
 go_enter Tryz.func310,Tryz.ntmps310
 go_wp2_with (first|(refine A9w rfl 256 _ rfl A2x (by kernel_rfl) ?_)|(refine A9x rfl 256 rfl _ _ A2y (by kernel_rfl) (by kernel_rfl) (by kernel_rfl) ?_)|(refine A9y rfl 256 _ _ rfl A2x rfl rfl (by kernel_rfl) (by kernel_rfl) (by kernel_rfl) ?_))
 go_ret
 refine Ret.mk rfl ?_
 rw[Blk]
 exact(Dj.refl _).alloc _
theorem Bll (n:Int) (w:World) (h0: ¬(0<=n/\n<=63)):
  Calls Tryz.prog 310 #[.int .i64 n] w (Ret w (.int .i64 0)):=by
 by_cases h:n<0
 .go_enter Tryz.func310,Tryz.ntmps310
  go_wp2_with fail
  go_ret
  exact Ret.mk rfl (Dj.refl _)
 .have h2:63<n:=by omega
  go_enter Tryz.func310,Tryz.ntmps310
  go_wp2_with fail
  go_ret
  exact Ret.mk rfl (Dj.refl _)
def A9z:List (Bool×List Sh):=[(false,[.int .i64])]
def A90 (r:YI):List RV×List RV:=([rv (false,[.int .i64]) r],[])
def Ar9:Au:=As A9z (fun d=>(Asa d.1).val) A90
theorem A5l:Fq 310 Ar9:=by
 refine⟨?_,Tryz.f310,Tryz.func310,by kernel_rfl,by kernel_rfl⟩
 intro rs res vals w G hv hG hr
 obtain⟨d,x,rfl,h1,h2⟩:=Bbl hv
 obtain⟨⟨n,_⟩,_⟩:=d
 cases h1
 subst h2
 match vals,hr with
 |[v],hr=>
  have e:v= .int .i64 n:=hr.1.1.1
  subst e
  refine(?_:Calls Tryz.prog 310 #[.int .i64 n] w (Ret w (.int .i64 (Ab1 n)))).mono fun e w' h=>Blm (Bln n) h
  unfold Ab1
  by_cases h:0<=n/\n<=63
  .rw[if_pos h];exact Blj n w h.1 h.2
  .rw[if_neg h];exact Bll n w h

def A7s:Au:=As [g_3,g_3] (fun d=>(A7t d.1 d.2.1).val) (Fo g_3)
theorem Biu:Fq 311 A7s:=mkF [] trivial Tryz.func311 0
def At9:Au:=As [g_6,g_0] (fun d=>(W6 d.1 d.2.1).val) (Fo g_6)
def Rn:Fns:=[Fz 292 W0,Fz 308 At7,Fz 309 A5j,Fz 310 Ar9,Fz 311 A7s]
theorem Afw:CfgOk Tryz.prog (Dw Rn):=Gk Mk I7 (show Kb Tryz.prog Rn from⟨Acu,A9v,Bbk,A5l,Biu,trivial⟩)
def Ah6:Sk:=⟨[(0,.v false [(.sl 3 [.int .i64],.ro)]),(5,.v false [(.sl 3 [.int .i64],(.own 17000000))]),(133,.v false [(.sl 3 [.int .i64],(.own 17000001))]),(134,.v false [(.int .i64,.nil)]),(135,.v false [(.int .i64,.nil)])],[],[17000000,17000001]⟩
def Ah7:List (Ex×Sk):=[((.exit 2),⟨[(5,.v false [(.sl 3 [.int .i64],(.own 17000000))])],[],[17000000]⟩)]
def Alw:Sk:=⟨[(0,.v false [(.sl 3 [.int .i64],.ro)]),(5,.v false [(.sl 3 [.int .i64],(.own 8000000))]),(6,.v false [(.sl 3 [.int .i64],(.own 8000001))]),(7,.v false [(.int .i64,.nil)]),(8,.v false [(.int .i64,.nil)]),(9,.v false [(.int .i64,.nil)]),(10,.v false [(.int .i64,.nil)]),(11,.v false [(.int .i64,.nil)]),(12,.v false [(.int .i64,.nil)]),(13,.v false [(.int .i64,.nil)]),(14,.v false [(.int .i64,.nil)]),(15,.v false [(.int .i64,.nil)])],[],[8000000,8000001]⟩
def Alx:List (Ex×Sk):=[((.exit 0),⟨[(0,.v false [(.sl 3 [.int .i64],.ro)]),(5,.v false [(.sl 3 [.int .i64],(.own 8000000))]),(7,.v false [(.int .i64,.nil)]),(8,.v false [(.int .i64,.nil)]),(9,.v false [(.int .i64,.nil)]),(10,.v false [(.int .i64,.nil)]),(11,.v false [(.int .i64,.nil)]),(12,.v false [(.int .i64,.nil)]),(13,.v false [(.int .i64,.nil)]),(14,.v false [(.int .i64,.nil)])],[],[8000000]⟩)]
def Ro:Gu:=fun i st=>cond (Nat.beq i 7) (lam Alw 8000000 Alx Iu st) <| cond (Nat.beq i 16) (lam Ah6 17000000 Ah7 Ib st) <| .fail
theorem A2z (cx:Cx) (hp:cx.pin.length<=0):D9 Tryz.prog cx Tryz.f306.ntmps Ro (Bb Tryz.f306 0):=Et Afw hp (De (by kernel_rfl:By (Bb Tryz.f306 0)=[]) trivial) (by kernel_rfl) (fun d=>(by kernel_rfl:bod (Dw Rn) 0 Tryz.f306.ntmps Ro (Bb Tryz.f306 0) Alw 8000000 Alx d=Iu d))
theorem Az7 (cx:Cx) (hp:cx.pin.length<=0):D9 Tryz.prog cx Tryz.f306.ntmps Ro (Bb Tryz.f306 1):=Et Afw hp (De (by kernel_rfl:By (Bb Tryz.f306 1)=[]) trivial) (by kernel_rfl) (fun d=>(by kernel_rfl:bod (Dw Rn) 0 Tryz.f306.ntmps Ro (Bb Tryz.f306 1) Ah6 17000000 Ah7 d=Ib d))
theorem A91:Fq 306 At9:=Nn Afw Tryz.func306 (by kernel_rfl) (by kernel_rfl) (fun cx b hp hb=>De (by kernel_rfl:By (Tryz.f306.body.getD .skip)=[Bb Tryz.f306 0,Bb Tryz.f306 1]) ⟨A2z cx hp,Az7 cx hp,trivial⟩ b hb) (fun d=>(by kernel_rfl:H7 (Dw Rn) 0 Ro Tryz.f306 .plain (mkA [g_6,g_0] d)=(W6 d.1 d.2.1).run fun r=>some ([rv g_6 r],[])))
def W7:Au:=As [g_6,g_0] (fun d=>(W8 d.1 d.2.1).val) fun r=>([rv g_6 r.1,rv g_0 r.2],[])
theorem Afx:Fn Tryz.prog 301 .view W7:=Dg [Fz 306 At9] ⟨A91,trivial⟩ ⟨[(0,.v false [(.sl 3 [.int .i64],.rd)]),(1,.v false [(.sl 5 [.int .u8],.ro)])],[],[]⟩ 2000000 [((.exit 0),⟨[(0,.v false [(.sl 3 [.int .i64],.rd)]),(1,.v false [(.sl 5 [.int .u8],.ro)])],[],[]⟩)] 1 G6 Tryz.func301 0
def Ayf:Au:=As [Bao,g_0] (fun d=>(Aj1 d.1 d.2.1).val) (Fo Bao)
theorem Bbm:Fq 288 Ayf:=mkF [Fz 300 Ao2,Fz 95 Cz,Fz 122 Hk,(301,.view,W7)] ⟨Aye,Cr,Hd,Afx,trivial⟩ Tryz.func288 0
def Bg3:Au:=As [g_3] (fun d=>(A5m d.1).val) (Fo g_0)
theorem Boe:Fq 302 Bg3:=Dg [Fz 26 B6,Fz 123 Lh] ⟨Bx,Kr,trivial⟩ ⟨[(0,.v false [(.int .i64,.nil)]),(3,.v false [(.sl 5 [.int .u8],(.own 5000000))])],[],[5000000]⟩ 5000000 [((.exit 0),⟨[(0,.v false [(.int .i64,.nil)]),(3,.v false [(.sl 5 [.int .u8],(.own 5000000))])],[],[5000000]⟩)] 4 Rp Tryz.func302 0
def Asb:Au:=As [g_6] (fun d=>(Acx d.1).val) (Fo g_0)
theorem A5n:Fq 303 Asb:=Dg [Fz 123 Lh] ⟨Kr,trivial⟩ ⟨[(3,.v false [(.sl 5 [.int .u8],(.own 4000000))]),(7,.v false [(.sl 3 [.int .i64],.ro)]),(8,.v false [(.int .i64,.nil)]),(9,.v false [(.int .i64,.nil)])],[],[4000000]⟩ 4000000 [((.exit 0),⟨[(3,.v false [(.sl 5 [.int .u8],(.own 4000000))])],[],[4000000]⟩)] 3 Jv Tryz.func303 0
def Ayg:Au:=As [Bao] (fun d=>(Aj2 d.1).val) (Fo g_0)
theorem Bbn:Fq 287 Ayg:=mkF [Fz 300 Ao2,Fz 302 Bg3,Fz 122 Hk,(301,.view,W7),Fz 303 Asb] ⟨Aye,Boe,Hd,Afx,A5n,trivial⟩ Tryz.func287 0
def A5o:Au:=As [g_0] (fun d=>(A5p d.1).val) (Fo g_0)
theorem Bbo:Fq 264 A5o:=mkF [Fz 289 Ayc,Fz 288 Ayf,Fz 287 Ayg] ⟨Bbj,Bbm,Bbn,trivial⟩ Tryz.func264 0
def Aua:Au:=As [g_0] (fun d=>(Afy d.1).val) (Fo g_0)
theorem A92:Fq 263 Aua:=Dg [Fz 95 Cz,Fz 264 A5o] ⟨Cr,Bbo,trivial⟩ ⟨[(3,.v false [(.sl 5 [.int .u8],(.own 7000000))])],[],[7000000]⟩ 7000000 [((.exit 0),⟨[(3,.v false [(.sl 5 [.int .u8],(.own 7000000))])],[],[7000000]⟩)] 6 Hw Tryz.func263 0
def A20:Au:=As [g_0,Btc] (fun d=>(Ao4 d.1 d.2.1).val) (Fo g_0)
theorem Bfh:Fq 265 A20:=Dg [] trivial ⟨[(1,.v false [(.int .u8,.nil)]),(5,.v false [(.sl 5 [.int .u8],(.own 4000000))]),(9,.v false [(.sl 5 [.int .u8],.ro)]),(10,.v false [(.int .i64,.nil)]),(11,.v false [(.int .i64,.nil)])],[],[4000000]⟩ 4000000 [((.exit 0),⟨[(5,.v false [(.sl 5 [.int .u8],(.own 4000000))])],[],[4000000]⟩)] 3 Ny Tryz.func265 0
def Zu:Au:=As [g_0,g_0] (fun d=>(Az8 d.1 d.2.1).val) (Fo g_0)
theorem Ab2:Fq 229 Zu:=mkF [Fz 263 Aua,Fz 265 A20,Fz 122 Hk,Fz 264 A5o] ⟨A92,Bfh,Hd,Bbo,trivial⟩ Tryz.func229 0
def A21:Au:=As [g_0,g_3] (fun d=>(Ao5 d.1 d.2.1).val) (Fo g_0)
theorem Bfi:Fq 175 A21:=mkF [Fz 26 B6,Fz 123 Lh,Fz 229 Zu,Fz 95 Cz] ⟨Bx,Kr,Ab2,Cr,trivial⟩ Tryz.func175 0
def Az9:Au:=As [g_5] (fun d=>(A0a d.1).val) fun r=>([rv g_5 r.1,rv g_0 r.2],[])
theorem A7u:Fq 100 Az9:=mkF [Fz 95 Cz,Fz 35 Aoi,Fz 175 A21] ⟨Cr,Ax7,Bfi,trivial⟩ Tryz.func100 0
def Ayh:Au:=As [g_0,Fj] (fun d=>(Aj3 d.1 d.2.1).val) (Fo g_0)
theorem Bbp:Fq 177 Ayh:=mkF [Fz 27 Gv,Fz 95 Cz,Fz 123 Lh] ⟨Gs,Cr,Kr,trivial⟩ Tryz.func177 0
def W9:Au:=As [Fj,g_3,g_0,g_0,g_3] (fun d=>(Afz d.1 d.2.1 d.2.2.1 d.2.2.2.1 d.2.2.2.2.1).val) (Fo g_0)
theorem Acy:Fq 103 W9:=mkF [Fz 27 Gv,Fz 26 B6,Fz 118 Hb,Fz 177 Ayh,Fz 123 Lh,Fz 122 Hk] ⟨Gs,Bx,Hc,Bbp,Kr,Hd,trivial⟩ Tryz.func103 0
def Aly:Au:=As [g_0,g_0] (fun d=>(A5q d.1 d.2.1).val) (Fo g_0)
theorem Ao6:Fq 176 Aly:=mkF [Fz 229 Zu,Fz 95 Cz] ⟨Ab2,Cr,trivial⟩ Tryz.func176 0
def A0b:Au:=As [g_8,Fj,g_3,g_0,g_0,g_3] (fun d=>(A0c d.1 d.2.1 d.2.2.1 d.2.2.2.1 d.2.2.2.2.1 d.2.2.2.2.2.1).val) (Fo g_0)
theorem A7v:Fq 101 A0b:=mkF [Fz 103 W9,Fz 34 Ah1,Fz 176 Aly] ⟨Acy,Aoh,Ao6,trivial⟩ Tryz.func101 0
def A0d:Au:=As [g_0,g_0] (fun d=>(A0e d.1 d.2.1).val) (Fo Bap)
theorem A7w:Fq 102 A0d:=mkF [Fz 95 Cz] ⟨Cr,trivial⟩ Tryz.func102 0
def Af0:Au:=As [g_0] (fun d=>(Af1 d.1).val) (Fo Bap)
theorem Asc:Fq 104 Af0:=mkF [Fz 95 Cz] ⟨Cr,trivial⟩ Tryz.func104 0
def Aub:Au:=As [Lv,g_3,Fj,Gc] (fun d=>(Af2 d.1 d.2.1 d.2.2.1 d.2.2.2.1).val) fun r=>([rv Lv r.1,rv Am4 r.2.1,rv Am5 r.2.2],[])
theorem A93:Fn Tryz.prog 29 (.lend [2]) Aub:=mkF [Fz 99 Ao0,Fz 100 Az9,Fz 101 A0b,Fz 95 Cz,Fz 103 W9,Fz 102 A0d,Fz 104 Af0] ⟨Ayb,A7u,A7v,Cr,Acy,A7w,Asc,trivial⟩ Tryz.func29 1
def A7x:Au:=As [g_3,g_3] (fun d=>(Auc d.1 d.2.1).val) (Fo g_1)
theorem Biv:Fq 178 A7x:=mkF [Fz 26 B6] ⟨Bx,trivial⟩ Tryz.func178 0
def A0f:Au:=As [g_0,g_0] (fun d=>(A0g d.1 d.2.1).val) (Fo g_3)
theorem A7y:Fq 230 A0f:=Dg [] trivial ⟨[(0,.v false [(.sl 5 [.int .u8],.ro)]),(1,.v false [(.sl 5 [.int .u8],.ro)]),(5,.v false [(.int .i64,.nil)]),(13,.v false [(.int .i64,.nil)]),(14,.v false [(.int .i64,.nil)])],[],[]⟩ 6000000 [((.exit 0),⟨[(5,.v false [(.int .i64,.nil)])],[],[]⟩)] 5 Xa Tryz.func230 0
def Abg:Au:=As [g_0,g_0] (fun d=>(Aj4 d.1 d.2.1).val) (Fo g_1)
theorem Af3:Fq 179 Abg:=mkF [Fz 230 A0f] ⟨A7y,trivial⟩ Tryz.func179 0
def A7z:Au:=As [g_8,g_3,Fj,Gc] (fun d=>(Aud d.1 d.2.1 d.2.2.1 d.2.2.2.1).val) (Fo g_3)
theorem Biw:Fq 105 A7z:=mkF [Fz 34 Ah1,Fz 26 B6,Fz 27 Gv,Fz 39 H4,Fz 178 A7x,Fz 101 A0b,Fz 179 Abg] ⟨Aoh,Bx,Gs,Ia,Biv,A7v,Af3,trivial⟩ Tryz.func105 0
def Aj5:Au:=As [g_0,g_0] (fun d=>(Abh d.1 d.2.1).val) (Fo g_0)
theorem Aue:Fq 185 Aj5:=mkF [Fz 229 Zu] ⟨Ab2,trivial⟩ Tryz.func185 0
def A22:Au:=As [g_0,g_0,g_3] (fun d=>(Ao7 d.1 d.2.1 d.2.2.1).val) fun r=>([rv g_0 r.1,rv g_1 r.2],[])
theorem Bfj:Fq 236 A22:=Dg [Fz 26 B6,Fz 122 Hk,Fz 229 Zu,Fz 95 Cz] ⟨Bx,Hd,Ab2,Cr,trivial⟩ ⟨[(0,.v false [(.sl 5 [.int .u8],.ro)]),(1,.v false [(.sl 5 [.int .u8],.ro)]),(2,.v false [(.int .i64,.nil)]),(8,.v false [(.sl 5 [.int .u8],(.own 7000000))]),(9,.v false [(.sl 5 [.int .u8],(.own 7000001))]),(10,.v false [(.int .i64,.nil)])],[],[7000000,7000001]⟩ 7000000 [((.exit 0),⟨[(2,.v false [(.int .i64,.nil)]),(8,.v false [(.sl 5 [.int .u8],(.own 7000000))])],[],[7000000]⟩)] 6 Nz Tryz.func236 0
def Xb:Au:=As [g_0,g_7] (fun d=>(Ao8 d.1 d.2.1).val) (Fo g_0)
theorem Abi:Fq 184 Xb:=mkF [Fz 236 A22] ⟨Bfj,trivial⟩ Tryz.func184 0
def Acz:Au:=As [g_0] (fun d=>(Ac0 d.1).val) (Fo g_0)
theorem Alz:Fq 111 Acz:=mkF [Fz 38 Ab0,Fz 185 Aj5,Fz 184 Xb] ⟨Adr,Aue,Abi,trivial⟩ Tryz.func111 0
def Ac1:Au:=As [g_3,g_0,g_0,g_3,g_0] (fun d=>(Ac2 d.1 d.2.1 d.2.2.1 d.2.2.2.1 d.2.2.2.2.1).val) (Fo g_0)
theorem Al0:Fq 112 Ac1:=mkF [Fz 26 B6,Fz 118 Hb,Fz 123 Lh,Fz 122 Hk] ⟨Bx,Hc,Kr,Hd,trivial⟩ Tryz.func112 0
def A70:Au:=As [g_0,g_3,g_0,g_0,g_3,g_0] (fun d=>(Auf d.1 d.2.1 d.2.2.1 d.2.2.2.1 d.2.2.2.2.1 d.2.2.2.2.2.1).val) (Fo g_0)
theorem Bix:Fq 180 A70:=mkF [Fz 111 Acz,Fz 112 Ac1,Fz 176 Aly] ⟨Alz,Al0,Ao6,trivial⟩ Tryz.func180 0
def Ayi:Au:=As [g_0,Gc] (fun d=>(Aj6 d.1 d.2.1).val) (Fo g_1)
theorem Bbq:Fq 106 Ayi:=mkF [Fz 39 H4,Fz 180 A70,Fz 179 Abg] ⟨Ia,Bix,Af3,trivial⟩ Tryz.func106 0
def Aug:Au:=As [Fj] (fun d=>(Af4 d.1).val) (Fo Ka)
theorem A94:Fq 181 Aug:=mkF [] trivial Tryz.func181 0
def Ayj:Au:=As [g_0,g_0,g_0] (fun d=>(Aj7 d.1 d.2.1 d.2.2.1).val) (Fo g_0)
theorem Bbr:Fq 234 Ayj:=mkF [Fz 38 Ab0,Fz 118 Hb,Fz 122 Hk,Fz 185 Aj5] ⟨Adr,Hc,Hd,Aue,trivial⟩ Tryz.func234 0
def Auh:Au:=As [g_0] (fun d=>(Af5 d.1).val) (Fo g_0)
theorem A95:Fq 233 Auh:=mkF [Fz 184 Xb] ⟨Abi,trivial⟩ Tryz.func233 0
def A71:Au:=As [g_0,g_3] (fun d=>(Aui d.1 d.2.1).val) (Fo g_0)
theorem Biy:Fq 235 A71:=Dg [Fz 26 B6,Fz 95 Cz,Fz 184 Xb] ⟨Bx,Cr,Abi,trivial⟩ ⟨[(1,.v false [(.int .i64,.nil)]),(5,.v false [(.sl 5 [.int .u8],(.own 6000000))]),(6,.v false [(.int .i64,.nil)])],[],[6000000]⟩ 6000000 [((.exit 0),⟨[(5,.v false [(.sl 5 [.int .u8],(.own 6000000))])],[],[6000000]⟩)] 5 Qk Tryz.func235 0
def Auj:Au:=As [g_0,g_0,g_0,g_3] (fun d=>(Af6 d.1 d.2.1 d.2.2.1 d.2.2.2.1).val) (Fo g_0)
theorem A96:Fq 183 Auj:=mkF [Fz 234 Ayj,Fz 233 Auh,Fz 235 A71] ⟨Bbr,A95,Biy,trivial⟩ Tryz.func183 0
def A23:Au:=As [] (fun d=>(Ao9).val) (Fo Oz)
theorem Bfk:Fq 266 A23:=mkF [] trivial Tryz.func266 0
def Ah8:Au:=As [g_3,g_0] (fun d=>(Ah9 d.1 d.2.1).val) (Fo Q6)
theorem Apa:Fq 232 Ah8:=mkF [Fz 26 B6,Fz 95 Cz,Fz 266 A23] ⟨Bx,Cr,Bfk,trivial⟩ Tryz.func232 0
def Ayk:Au:=As [g_3,g_0,g_0] (fun d=>(Abj d.1 d.2.1 d.2.2.1).val) (Fo J0)
theorem Bbs:Fq 182 Ayk:=mkF [Fz 231 S6,Fz 118 Hb,Fz 95 Cz,Fz 232 Ah8] ⟨Uf,Hc,Cr,Apa,trivial⟩ Tryz.func182 0
def Ayl:Au:=As [g_0,g_3,Fj,Gc] (fun d=>(Aj8 d.1 d.2.1 d.2.2.1 d.2.2.2.1).val) (Fo M8)
theorem Bbt:Fq 108 Ayl:=mkF [Fz 38 Ab0,Fz 26 B6,Fz 27 Gv,Fz 39 H4,Fz 95 Cz,Fz 181 Aug,Fz 183 Auj,Fz 182 Ayk] ⟨Adr,Bx,Gs,Ia,Cr,A94,A96,Bbs,trivial⟩ Tryz.func108 0
def Aym:Au:=As [g_9,M8] (fun d=>(Abk d.1 d.2.1).val) fun r=>([rv g_9 r.1,rv g_3 r.2],[])
theorem Bbu:Fq 109 Aym:=mkF [Fz 96 Aba,Fz 36 Ah3,Fz 117 W1,Fz 107 W2,Fz 15 Az0,Fz 174 Nu] ⟨Afk,Aou,Abd,Abe,A7n,Pw,trivial⟩ Tryz.func109 0
def A0h:Au:=As [g_0,g_0,g_0] (fun d=>(A0i d.1 d.2.1 d.2.2.1).val) (Fo Bap)
theorem A72:Fq 110 A0h:=mkF [Fz 95 Cz] ⟨Cr,trivial⟩ Tryz.func110 0
def Ac3:Au:=As [g_3] (fun d=>(Ac4 d.1).val) (Fo g_0)
theorem Al1:Fq 237 Ac3:=mkF [Fz 26 B6,Fz 123 Lh] ⟨Bx,Kr,trivial⟩ Tryz.func237 0
def Ads:Au:=As [g_3,g_0,g_3,g_3] (fun d=>(Apb d.1 d.2.1 d.2.2.1 d.2.2.2.1).val) (Fo g_0)
theorem Aj9:Fq 239 Ads:=mkF [Fz 231 S6,Fz 118 Hb,Fz 26 B6,Fz 123 Lh,Fz 122 Hk] ⟨Uf,Hc,Bx,Kr,Hd,trivial⟩ Tryz.func239 0
def Ayn:Au:=As [g_0,g_0,g_3] (fun d=>(Aka d.1 d.2.1 d.2.2.1).val) (Fo g_0)
theorem Bbv:Fq 307 Ayn:=mkF [Fz 26 B6,Fz 122 Hk,Fz 123 Lh,Fz 229 Zu] ⟨Bx,Hd,Kr,Ab2,trivial⟩ Tryz.func307 0
def A24:Au:=As [g_0,g_0,g_3] (fun d=>(Apc d.1 d.2.1 d.2.2.1).val) (Fo g_0)
theorem Bfl:Fq 305 A24:=Dg [Fz 26 B6,Fz 307 Ayn,Fz 95 Cz] ⟨Bx,Bbv,Cr,trivial⟩ ⟨[(0,.v false [(.sl 5 [.int .u8],.ro)]),(1,.v false [(.sl 5 [.int .u8],.ro)]),(2,.v false [(.int .i64,.nil)]),(7,.v false [(.sl 5 [.int .u8],(.own 6000000))]),(8,.v false [(.int .i64,.nil)])],[],[6000000]⟩ 6000000 [((.exit 0),⟨[(2,.v false [(.int .i64,.nil)]),(7,.v false [(.sl 5 [.int .u8],(.own 6000000))])],[],[6000000]⟩)] 5 N0 Tryz.func305 0
def A5r:Au:=As [g_0,g_0,g_0] (fun d=>(A5s d.1 d.2.1 d.2.2.1).val) (Fo g_0)
theorem Bbw:Fq 291 A5r:=Dg [Fz 305 A24] ⟨Bfl,trivial⟩ ⟨[(2,.v false [(.sl 5 [.int .u8],.ro)]),(7,.v false [(.sl 5 [.int .u8],(.own 6000000))]),(28,.v false [(.sl 5 [.int .u8],(.own 6000001))]),(29,.v false [(.int .i64,.nil)]),(30,.v false [(.int .i64,.nil)])],[],[6000000,6000001]⟩ 6000000 [((.exit 0),⟨[(7,.v false [(.sl 5 [.int .u8],(.own 6000000))])],[],[6000000]⟩)] 5 V8 Tryz.func291 0
def N3:Au:=As [g_3,Gc] (fun d=>(Af7 d.1 d.2.1).val) (Fo g_0)
theorem Py:Fq 190 N3:=mkF [Fz 231 S6,Fz 31 O5,Fz 39 H4,Fz 239 Ads,Fz 122 Hk] ⟨Uf,Qj,Ia,Aj9,Hd,trivial⟩ Tryz.func190 0
def Bbx:Au:=As [g_0,g_3,g_0,g_3,g_3,g_3,g_0] (fun d=>(A0j d.1 d.2.1 d.2.2.1 d.2.2.2.1 d.2.2.2.2.1 d.2.2.2.2.2.1 d.2.2.2.2.2.2.1).val) fun r=>([rv Gc r.1,rv g_1 r.2],[])
theorem Blo:Fq 270 Bbx:=mkF [Fz 95 Cz,Fz 231 S6,Fz 31 O5,Fz 39 H4,Fz 239 Ads,Fz 291 A5r,Fz 190 N3,Fz 176 Aly] ⟨Cr,Uf,Qj,Ia,Aj9,Bbw,Py,Ao6,trivial⟩ Tryz.func270 0
def A25:Au:=As [Q6,g_3,g_0,g_3,g_0] (fun d=>(Apd d.1 d.2.1 d.2.2.1 d.2.2.2.1 d.2.2.2.2.1).val) fun r=>([rv Q6 r.1,rv Gc r.2.1,rv g_3 r.2.2],[])
theorem Bfm:Fq 243 A25:=mkF [Fz 262 Adq,Fz 245 Afn,Fz 270 Bbx] ⟨Ajw,Ah2,Blo,trivial⟩ Tryz.func243 0
def Af8:Au:=As [J0,g_3,g_0] (fun d=>(Af9 d.1 d.2.1 d.2.2.1).val) fun r=>([rv J0 r.1,rv Gc r.2.1,rv g_3 r.2.2],[])
theorem Asd:Fq 194 Af8:=mkF [Fz 227 Lg,Fz 196 Mm,Fz 243 A25] ⟨L8,Nc,Bfm,trivial⟩ Tryz.func194 0
def A5t:Au:=As [J0] (fun d=>(A5u d.1).val) fun r=>([rv J0 r.1,rv Gc r.2.1,rv g_3 r.2.2],[])
theorem Bby:Fq 186 A5t:=mkF [Fz 196 Mm,Fz 227 Lg,Fz 237 Ac3,Fz 194 Af8] ⟨Nc,L8,Al1,Asd,trivial⟩ Tryz.func186 0
def Adt:Au:=As [J0,Gc] (fun d=>(Ape d.1 d.2.1).val) (Fo Bap)
theorem Akb:Fq 187 Adt:=mkF [Fz 190 N3,Fz 102 A0d] ⟨Py,A7w,trivial⟩ Tryz.func187 0
def Ayo:Au:=As [M8] (fun d=>(Abl d.1).val) fun r=>([rv M8 r.1,rv Am4 r.2.1,rv Am5 r.2.2],[])
theorem Bbz:Fq 113 Ayo:=mkF [Fz 174 Nu,Fz 117 W1,Fz 186 A5t,Fz 187 Adt] ⟨Pw,Abd,Bby,Akb,trivial⟩ Tryz.func113 0
def Akc:Au:=As [g_9,g_3,M8] (fun d=>(Akd d.1 d.2.1 d.2.2.1).val) fun r=>([rv g_9 r.1,rv g_1 r.2],[])
theorem Auk:Fq 114 Akc:=mkF [Fz 96 Aba,Fz 36 Ah3,Fz 174 Nu] ⟨Afk,Aou,Pw,trivial⟩ Tryz.func114 0
def Al2:Au:=As [Lv,g_3,Fj,Gc] (fun d=>(Zv d.1 d.2.1 d.2.2.1 d.2.2.2.1).val) fun r=>([rv Lv r.1,rv Am4 r.2.1,rv Am5 r.2.2],[])
theorem A26:Fn Tryz.prog 30 (.lend [2]) Al2:=mkF [Fz 105 A7z,Fz 106 Ayi,Fz 107 W2,Fz 108 Ayl,Fz 109 Aym,Fz 103 W9,Fz 110 A0h,Fz 111 Acz,Fz 112 Ac1,Fz 95 Cz,Fz 44 Hj,Fz 113 Ayo,Fz 114 Akc] ⟨Biw,Bbq,Abe,Bbt,Bbu,Acy,A72,Alz,Al0,Cr,Hv,Bbz,Auk,trivial⟩ Tryz.func30 1
def A27:Au:=As [Oz,g_3] (fun d=>(Apf d.1 d.2.1).val) (Fo g_1)
theorem Bfn:Fq 290 A27:=mkF [Fz 272 Atx,Fz 26 B6,Fz 293 Aoo] ⟨A2p,Bx,Aya,trivial⟩ Tryz.func290 0
def A28:Au:=As [Oz,g_3] (fun d=>(Apg d.1 d.2.1).val) fun r=>([rv Oz r.1,rv g_1 r.2],[])
theorem Bfo:Fq 267 A28:=Dg [Fz 286 Aju,Fz 290 A27] ⟨Atv,Bfn,trivial⟩ ⟨[(1,.v false [(.int .i64,.nil)]),(2,.box 2 0),(4,.box 4 0),(6,.box 6 0),(7,.v false [(.int .i64,.nil)])],[(2,[(.int .i64,.nil),(.sl 3 [.int .i64],.ro)]),(4,[(.int .i64,.nil),(.sl 3 [.int .i64],(.own 6000000))]),(6,[(.int .i64,.nil),(.sl 3 [.int .i64],(.own 6000001))])],[6000000,6000001]⟩ 6000000 [((.exit 0),⟨[(1,.v false [(.int .i64,.nil)]),(2,.box 2 0),(4,.box 4 0),(6,.box 6 0)],[(2,[(.int .i64,.nil),(.sl 3 [.int .i64],.ro)]),(4,[(.int .i64,.nil),(.sl 3 [.int .i64],(.own 6000000))]),(6,[(.int .i64,.nil),(.sl 3 [.int .i64],(.own 6000001))])],[6000000,6000001]⟩)] 5 N4 Tryz.func267 0
def A29:Au:=As [g_0,g_3,Gc] (fun d=>(Aph d.1 d.2.1 d.2.2.1).val) fun r=>([rv g_0 r.1,rv g_1 r.2],[])
theorem Bfp:Fq 268 A29:=mkF [Fz 190 N3,Fz 176 Aly,Fz 179 Abg,Fz 239 Ads,Fz 291 A5r] ⟨Py,Ao6,Af3,Aj9,Bbw,trivial⟩ Tryz.func268 0
def A3a:Au:=As [Q6,g_3,Gc] (fun d=>(Api d.1 d.2.1 d.2.2.1).val) fun r=>([rv Q6 r.1,rv g_0 r.2.1,rv g_3 r.2.2],[])
theorem Bfq:Fq 238 A3a:=mkF [Fz 262 Adq,Fz 245 Afn,Fz 190 N3,Fz 267 A28,Fz 268 A29] ⟨Ajw,Ah2,Py,Bfo,Bfp,trivial⟩ Tryz.func238 0
def Aul:Au:=As [J0,g_3,Gc] (fun d=>(Aga d.1 d.2.1 d.2.2.1).val) fun r=>([rv J0 r.1,rv g_0 r.2.1,rv g_3 r.2.2],[])
theorem A97:Fq 188 Aul:=mkF [Fz 227 Lg,Fz 196 Mm,Fz 26 B6,Fz 31 O5,Fz 39 H4,Fz 230 A0f,Fz 232 Ah8,Fz 238 A3a] ⟨L8,Nc,Bx,Qj,Ia,A7y,Apa,Bfq,trivial⟩ Tryz.func188 0
def A3b:Au:=As [J0,g_3] (fun d=>(Apj d.1 d.2.1).val) fun r=>([rv g_0 r.1,rv g_1 r.2],[])
theorem Bfr:Fq 189 A3b:=mkF [Fz 196 Mm,Fz 95 Cz] ⟨Nc,Cr,trivial⟩ Tryz.func189 0
def Apk:Au:=As [Ka,Fj] (fun d=>(Apl d.1 d.2.1).val) (Fo g_3)
theorem Ayp:Fq 240 Apk:=Dg [] trivial ⟨[(3,.box 3 0),(8,.v false [(.sl 188 h_4,.ro)]),(9,.v false [(.int .i64,.nil)]),(10,.v false [(.int .i64,.nil)])],[(3,[(.int .i64,.nil),(.int .i64,.nil)])],[]⟩ 3000000 [(.ret,⟨[(4,.v false [(.int .i64,.nil)])],[],[]⟩),((.exit 0),⟨[],[],[]⟩)] 2 Rq Tryz.func240 0
def A3c:Au:=As [Ka,g_3,Fj,g_0] (fun d=>(Adu d.1 d.2.1 d.2.2.1 d.2.2.2.1).val) fun r=>([rv Ka r.1,rv g_1 r.2],[])
theorem Bfs:Fq 191 A3c:=mkF [Fz 228 Pv,Fz 240 Apk,Fz 197 Abb,Fz 26 B6,Fz 44 Hj] ⟨S5,Ayp,Afo,Bx,Hv,trivial⟩ Tryz.func191 0
def Bb0:Au:=As [J0] (fun d=>(A0k d.1).val) fun r=>([rv J0 r.1,rv g_1 r.2],[])
theorem Blp:Fq 269 Bb0:=mkF [Fz 227 Lg,Fz 196 Mm,Fz 184 Xb,Fz 232 Ah8] ⟨L8,Nc,Abi,Apa,trivial⟩ Tryz.func269 0
def Ase:Au:=As [J0,g_3,g_0] (fun d=>(Ac5 d.1 d.2.1 d.2.2.1).val) fun r=>([rv J0 r.1,rv g_3 r.2],[])
theorem A5v:Fq 241 Ase:=mkF [Fz 227 Lg,Fz 196 Mm,Fz 26 B6,Fz 237 Ac3,Fz 44 Hj,Fz 269 Bb0] ⟨L8,Nc,Bx,Al1,Hv,Blp,trivial⟩ Tryz.func241 0
def Asf:Au:=As [M8,g_3,g_0] (fun d=>(Vb d.1 d.2.1 d.2.2.1).val) fun r=>([rv M8 r.1,rv Am4 r.2.1,rv Am5 r.2.2],[])
theorem A5w:Fn Tryz.prog 192 (.lend [2]) Asf:=mkF [Fz 241 Ase,Fz 95 Cz,Fz 186 A5t,Fz 187 Adt] ⟨A5v,Cr,Bby,Akb,trivial⟩ Tryz.func192 1
def Ab3:Au:=As [Ka,g_3] (fun d=>(Mo d.1 d.2.1).val) (Fo Ka)
def Mp:Fns:=[Fz 228 Pv]
theorem Ab4:CfgOk Tryz.prog (Dw Mp):=Gk Mk I7 (show Kb Tryz.prog Mp from⟨S5,trivial⟩)
def Xc:Sk:=⟨[(1,.v false [(.int .i64,.nil)]),(4,.box 4 0),(5,.box 5 0),(13,.v false [(.sl 188 h_4,(.own 4000000))]),(14,.v false [(.int .i64,.nil)]),(15,.v false [(.int .i64,.nil)])],[(4,[(.int .i64,.nil),(.int .i64,.nil),(.sl 188 h_4,(.own 4000001))]),(5,[(.int .i64,.nil),(.int .i64,.nil),(.sl 188 h_4,(.own 4000002))])],[4000000,4000001,4000002]⟩
def Xd:List (Ex×Sk):=[((.exit 0),⟨[(4,.box 4 0),(5,.box 5 0)],[(4,[(.int .i64,.nil),(.int .i64,.nil),(.sl 188 h_4,(.own 4000000))]),(5,[(.int .i64,.nil),(.int .i64,.nil),(.sl 188 h_4,(.own 4000001))])],[4000000,4000001]⟩)]
def Rr:Gu:=fun i st=>cond (Nat.beq i 3) (lam Xc 4000000 Xd Ft st) <| .fail
theorem Al3 (cx:Cx) (hp:cx.pin.length<=0):D9 Tryz.prog cx Tryz.f242.ntmps Rr (Bb Tryz.f242 0):=Bb1 Ab4 hp (De (by kernel_rfl:By (Bb Tryz.f242 0)=[]) trivial) 13 15 4500000 (by kernel_rfl) (by kernel_rfl) (fun d=>(by kernel_rfl:Biz (Dw Mp) 0 Tryz.f242.ntmps Rr (Bb Tryz.f242 0) Xc 4000000 Xd 13 15 4500000 d=Ft d))
theorem Asq:Fq 242 Ab3:=Nn Ab4 Tryz.func242 (by kernel_rfl) (by kernel_rfl) (fun cx b hp hb=>De (by kernel_rfl:By (Tryz.f242.body.getD .skip)=[Bb Tryz.f242 0]) ⟨Al3 cx hp,trivial⟩ b hb) (fun d=>(by kernel_rfl:H7 (Dw Mp) 0 Rr Tryz.f242 .plain (mkA [Ka,g_3] d)=(Mo d.1 d.2.1).run fun r=>some ([rv Ka r],[])))
def A73:Au:=As [Ka,g_3,Fj,g_0] (fun d=>(Ab5 d.1 d.2.1 d.2.2.1 d.2.2.2.1).val) fun r=>([rv Ka r.1,rv g_1 r.2],[])
theorem Bi0:Fq 193 A73:=mkF [Fz 197 Abb,Fz 26 B6,Fz 27 Gv,Fz 118 Hb,Fz 228 Pv,Fz 242 Ab3,Fz 240 Apk,Fz 95 Cz] ⟨Afo,Bx,Gs,Hc,S5,Asq,Ayp,Cr,trivial⟩ Tryz.func193 0
def Aum:Au:=As [M8,g_3,Fj,Gc,g_0] (fun d=>(Xe d.1 d.2.1 d.2.2.1 d.2.2.2.1 d.2.2.2.2.1).val) fun r=>([rv M8 r.1,rv Am4 r.2.1,rv Am5 r.2.2.1,rv g_1 r.2.2.2],[])
theorem A98:Fq 115 Aum:=mkF [Fz 174 Nu,Fz 117 W1,Fz 27 Gv,Fz 188 Aul,Fz 189 A3b,Fz 190 N3,Fz 110 A0h,Fz 95 Cz,Fz 191 A3c,(192,(.lend [2]),Asf),Fz 193 A73,Fz 194 Af8,Fz 187 Adt] ⟨Pw,Abd,Gs,A97,Bfr,Py,A72,Cr,Bfs,A5w,Bi0,Asd,Akb,trivial⟩ Tryz.func115 0
def Adi:Au:=As [Lv,g_3,Fj,Gc] (fun d=>(Tz d.1 d.2.1 d.2.2.1 d.2.2.2.1).val) fun r=>([rv Lv r.1,rv Am4 r.2.1,rv Am5 r.2.2],[])
theorem Aun:Fn Tryz.prog 32 (.lend [2]) Adi:=mkF [Fz 107 W2,Fz 100 Az9,Fz 99 Ao0,Fz 115 Aum,Fz 114 Akc,Fz 95 Cz,Fz 104 Af0] ⟨Abe,A7u,Ayb,A98,Auk,Cr,Asc,trivial⟩ Tryz.func32 1
def Apm:Au:=As [Gc] (fun d=>(Apn d.1).val) (Fo g_3)
theorem Ayq:Fq 13 Apm:=mkF [Fz 41 Afs] ⟨Ar8,trivial⟩ Tryz.func13 0
def A74:Au:=As [Qs,Fj,g_3] (fun d=>(Auo d.1 d.2.1 d.2.2.1).val) fun r=>([rv Qs r.1,rv g_1 r.2],[])
theorem Bi1:Fq 33 A74:=mkF [Fz 97 Qu,Fz 98 Ri,Fz 37 Px,Fz 116 Aj0,Fz 26 B6] ⟨Vn,Va,S8,At6,Bx,trivial⟩ Tryz.func33 0
def Al4:Au:=As [Lv,g_3,Fj,g_0] (fun d=>(Ta d.1 d.2.1 d.2.2.1 d.2.2.2.1).val) fun r=>([rv Lv r.1,rv Am4 r.2.1,rv Am5 r.2.2],[])
def Tb:Fns:=[Fz 25 Aln,Fz 9 Afq,Fz 26 B6,Fz 27 Gv,Fz 28 Bbh,Fz 14 At4,(29,(.lend [2]),Aub),(30,(.lend [2]),Al2),Fz 31 O5,(32,(.lend [2]),Adi),Fz 12 Aoz,Fz 13 Apm,Fz 33 A74]
theorem Al5:CfgOk Tryz.prog (Dw Tb):=Gk Mk I7 (show Kb Tryz.prog Tb from⟨A2n,Ar6,Bx,Gs,Bli,A9u,A93,A26,Qj,Aun,At5,Ayq,Bi1,trivial⟩)
def Adj:Sk:=⟨[(8,.box 8 0),(11,.box 11 0),(15,.v false [(.sl 92 h_7,(.own 18000000))]),(16,.v false [(.sl 50 h_9,(.own 18000001))]),(94,.v false [(.sl 50 h_9,(.own 18000002))]),(95,.v false [(.int .i64,.nil)]),(96,.v false [(.int .i64,.nil)])],[(8,[(.sl 22 [.sl 5 [.int .u8]],(.own 18000003)),(.sl 5 [.int .u8],(.own 18000004)),(.sl 5 [.int .u8],(.own 18000005)),(.int .i64,.nil),(.int .i64,.nil),(.sl 88 Dy,(.own 18000006)),(.sl 53 h_2,(.own 18000007))]),(11,[(.sl 22 [.sl 5 [.int .u8]],(.own 18000008)),(.sl 5 [.int .u8],(.own 18000009)),(.sl 5 [.int .u8],(.own 18000010)),(.int .i64,.nil),(.int .i64,.nil),(.sl 88 Dy,(.own 18000011)),(.sl 53 h_2,(.own 18000012))])],[18000000,18000001,18000002,18000003,18000004,18000005,18000006,18000007,18000008,18000009,18000010,18000011,18000012]⟩
def Adk:List (Ex×Sk):=[((.exit 1),⟨[(8,.box 8 0),(11,.box 11 0),(15,.v false [(.sl 92 h_7,(.own 18000000))]),(16,.v false [(.sl 50 h_9,(.own 18000001))])],[(8,[(.sl 22 [.sl 5 [.int .u8]],(.own 18000002)),(.sl 5 [.int .u8],(.own 18000003)),(.sl 5 [.int .u8],(.own 18000004)),(.int .i64,.nil),(.int .i64,.nil),(.sl 88 Dy,(.own 18000005)),(.sl 53 h_2,(.own 18000006))]),(11,[(.sl 22 [.sl 5 [.int .u8]],(.own 18000007)),(.sl 5 [.int .u8],(.own 18000008)),(.sl 5 [.int .u8],(.own 18000009)),(.int .i64,.nil),(.int .i64,.nil),(.sl 88 Dy,(.own 18000010)),(.sl 53 h_2,(.own 18000011))])],[18000000,18000001,18000002,18000003,18000004,18000005,18000006,18000007,18000008,18000009,18000010,18000011]⟩)]
def Zw:Gu:=fun i st=>cond (Nat.beq i 17) (lam Adj 18000000 Adk D5 st) <| .fail
theorem Aup (cx:Cx) (hp:cx.pin.length<=0):D9 Tryz.prog cx Tryz.f8.ntmps Zw (Bb Tryz.f8 0):=Bb1 Al5 hp (De (by kernel_rfl:By (Bb Tryz.f8 0)=[]) trivial) 94 96 18500000 (by kernel_rfl) (by kernel_rfl) (fun d=>(by kernel_rfl:Biz (Dw Tb) 0 Tryz.f8.ntmps Zw (Bb Tryz.f8 0) Adj 18000000 Adk 94 96 18500000 d=D5 d))
theorem A3d:Fq 8 Al4:=Nn Al5 Tryz.func8 (by kernel_rfl) (by kernel_rfl) (fun cx b hp hb=>De (by kernel_rfl:By (Tryz.f8.body.getD .skip)=[Bb Tryz.f8 0]) ⟨Aup cx hp,trivial⟩ b hb) (fun d=>(by kernel_rfl:H7 (Dw Tb) 0 Zw Tryz.f8 .plain (mkA [Lv,g_3,Fj,g_0] d)=(Ta d.1 d.2.1 d.2.2.1 d.2.2.2.1).run fun r=>some ([rv Lv r.1,rv Am4 r.2.1,rv Am5 r.2.2],[])))
def A3e:Au:=As [Am4] (fun d=>(Apo d.1).val) (Fo g_1)
theorem Bft:Fq 10 A3e:=Dg [Fz 39 H4,Fz 27 Gv] ⟨Ia,Gs,trivial⟩ ⟨[(0,.v false [(.sl 50 h_9,.ro)]),(3,.v false [(.int .i64,.nil)])],[],[]⟩ 3000000 [(.ret,⟨[(2,.v false [(.bool,.nil)])],[],[]⟩),((.exit 0),⟨[],[],[]⟩)] 2 N5 Tryz.func10 0
def Ayr:Au:=As [g_0,g_3] (fun d=>(Ake d.1 d.2.1).val) (Fo g_1)
theorem Bb2:Fq 121 Ayr:=mkF [] trivial Tryz.func121 0
def A3f:Au:=As [Bap] (fun d=>(App d.1).val) (Fo g_1)
theorem Bfu:Fq 40 A3f:=mkF [Fz 26 B6,Fz 121 Ayr,Fz 27 Gv] ⟨Bx,Bb2,Gs,trivial⟩ Tryz.func40 0
def Ays:Au:=As [Am5] (fun d=>(Akf d.1).val) (Fo g_1)
theorem Bb3:Fq 11 Ays:=Dg [Fz 40 A3f] ⟨Bfu,trivial⟩ ⟨[(0,.v false [(.sl 92 h_7,.ro)]),(3,.v false [(.int .i64,.nil)])],[],[]⟩ 3000000 [(.ret,⟨[(2,.v false [(.bool,.nil)])],[],[]⟩),((.exit 0),⟨[],[],[]⟩)] 2 Mb Tryz.func11 0
end
end Go.Proofs.YtnbbbaplphcebaaGreat

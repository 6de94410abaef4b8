/-
  That the functions of the seat answer what the terms of text W say; nothing is assumed.
-/
import Derived.Test.YtfljmgnghlpapaaGreatW
import Derived.Test.YtfljmgnghlpapaaGreatProg
import Derived.KernelRfl
namespace Go.Proofs.YtfljmgnghlpapaaGreat
open Go.RowKit
set_option linter.unusedVariables false
set_option maxRecDepth 100000
set_option maxHeartbeats 4000000
noncomputable section
abbrev h_0:List Sh:=[.int .i64,.int .i64,.bool,.int .u8]
abbrev h_1:List Sh:=[.sl 5 [.int .u8],.int .i64,.int .i64]
abbrev h_2:List Sh:=[.int .i64,.int .i64,.int .i64,.int .i64]
abbrev h_3:List Sh:=[.sl 3 [.int .i64],.sl 5 [.int .u8],.int .i64]
abbrev h_4:List Sh:=[.int .i64,.int .i64,.sl 5 [.int .u8],.int .i64]
abbrev h_5:List Sh:=[.int .i64,.sl 5 [.int .u8],.int .i64,.int .i64,.sl 3 [.int .i64]]
abbrev h_6:List Sh:=[.int .i64,.int .i64,.sl 169 h_4]
abbrev h_7:List Sh:=[.int .i64,.int .i64,.int .i64,.sl 5 [.int .u8],.sl 5 [.int .u8],.int .i64,.int .i64,.sl 5 [.int .u8],.sl 5 [.int .u8],.int .i64,.int .i64,.int .i64]
abbrev h_8:List Sh:=[.int .i64,.int .i64,.sl 5 [.int .u8],.sl 5 [.int .u8],.int .i64,.sl 5 [.int .u8],.sl 5 [.int .u8],.int .i64,.int .i64,.sl 5 [.int .u8],.sl 5 [.int .u8]]
abbrev h_9:List Sh:=[.int .i64,.int .i64,.int .i64,.int .i64,.sl 5 [.int .u8],.sl 5 [.int .u8],.int .i64,.sl 5 [.int .u8],.sl 5 [.int .u8],.int .i64,.int .i64,.sl 5 [.int .u8],.sl 5 [.int .u8]]
abbrev Bgi:List Sh:=[.int .i64,.sl 5 [.int .u8],.int .i64,.sl 5 [.int .u8],.int .i64,.int .i64,.sl 3 [.int .i64],.int .i64,.sl 5 [.int .u8],.int .i64,.int .i64,.sl 3 [.int .i64],.bool,.int .i64,.sl 5 [.int .u8]]
abbrev B5:List Sh:=[.int .i64,.sl 5 [.int .u8],.sl 5 [.int .u8],.int .i64,.sl 5 [.int .u8],.int .i64,.sl 5 [.int .u8],.int .i64,.int .i64,.sl 3 [.int .i64],.int .i64,.sl 5 [.int .u8],.int .i64,.int .i64,.sl 3 [.int .i64],.bool,.int .i64,.sl 5 [.int .u8],.int .i64,.int .i64,.sl 169 h_4,.int .i64,.int .i64,.bool]
abbrev Bgj:List Sh:=[.sl 22 [.sl 5 [.int .u8]],.sl 5 [.int .u8],.sl 5 [.int .u8],.int .i64,.int .i64,.sl 40 B5,.sl 147 h_2]
abbrev g_0:Bool×List Sh:=(false,[.sl 5 [.int .u8]])
abbrev g_1:Bool×List Sh:=(false,[.bool])
abbrev g_2:Bool×List Sh:=(true,h_1)
abbrev g_3:Bool×List Sh:=(false,[.int .i64])
abbrev g_4:Bool×List Sh:=(false,[.sl 22 [.sl 5 [.int .u8]]])
abbrev g_5:Bool×List Sh:=(true,[.sl 5 [.int .u8],.int .i64])
abbrev g_6:Bool×List Sh:=(false,[.sl 3 [.int .i64]])
abbrev g_7:Bool×List Sh:=(false,[.str])
abbrev g_8:Bool×List Sh:=(true,[.sl 5 [.int .u8]])
abbrev g_9:Bool×List Sh:=(true,[.int .i64,.sl 40 B5])
abbrev Kx:Bool×List Sh:=(true,h_5)
abbrev J1:Bool×List Sh:=(true,Bgi)
abbrev I3:Bool×List Sh:=(true,[.int .i64,.int .i64])
abbrev Ky:Bool×List Sh:=(true,[.int .i64,.sl 3 [.int .i64]])
abbrev Ht:Bool×List Sh:=(true,h_6)
abbrev H1:Bool×List Sh:=(true,B5)
abbrev Ng:Bool×List Sh:=(false,[.sl 147 h_2])
abbrev Fs:Bool×List Sh:=(true,Bgj)
abbrev Nh:Bool×List Sh:=(true,h_8)
abbrev Bgk:Bool×List Sh:=(true,h_4)
abbrev A0j:Bool×List Sh:=(true,h_3)
abbrev Bh1:Bool×List Sh:=(false,[.int .u8])
abbrev Aez:Bool×List Sh:=(true,h_7)
abbrev Aa1:Bool×List Sh:=(false,[.sl 106 h_7])
abbrev Bgl:Bool×List Sh:=(false,[.sl 159 h_9])
def tys:List (Nat×Ty):=[(3,⟨false,[.int .i64],[],false,[]⟩),
 (4,⟨false,[.bool],[],false,[]⟩),
 (5,⟨false,[.int .u8],[],false,[]⟩),
 (9,⟨false,[.str],[],false,[]⟩),
 (22,⟨false,[.sl 5 [.int .u8]],[],false,[]⟩),
 (24,⟨false,[.sl 40 B5],[],false,[]⟩),
 (26,⟨true,[.int .i64,.sl 40 B5],[(0,1),(1,1)],false,[]⟩),
 (27,⟨false,[.sl 3 [.int .i64]],[],false,[]⟩),
 (29,⟨true,[.int .i64,.sl 3 [.int .i64]],[(0,1),(1,1)],false,[]⟩),
 (31,⟨true,h_5,[(0,1),(1,1),(2,1),(3,2)],false,[]⟩),
 (33,⟨true,Bgi,[(0,1),(1,1),(2,5),(7,5),(12,1),(13,1),(14,1)],false,[]⟩),
 (35,⟨true,[.int .i64,.int .i64],[(0,1),(1,1)],true,[]⟩),
 (36,⟨false,[.sl 169 h_4],[],false,[]⟩),
 (38,⟨true,h_6,[(0,2),(2,1)],false,[35,36]⟩),
 (40,⟨true,B5,[(0,1),(1,1),(2,1),(3,15),(18,3),(21,1),(22,1),(23,1)],false,[]⟩),
 (55,⟨false,[.sl 22 [.sl 5 [.int .u8]]],[],false,[]⟩),
 (57,⟨true,[.sl 5 [.int .u8]],[(0,1)],false,[]⟩),
 (59,⟨true,[.sl 5 [.int .u8],.int .i64],[(0,1),(1,1)],false,[]⟩),
 (60,⟨false,[.sl 147 h_2],[],false,[]⟩),
 (62,⟨true,Bgj,[(0,1),(1,1),(2,2),(4,2),(6,1)],false,[]⟩),
 (64,⟨false,[.sl 106 h_7],[],false,[]⟩),
 (74,⟨true,h_8,[(0,1),(1,1),(2,1),(3,1),(4,1),(5,1),(6,1),(7,1),(8,1),(9,1),(10,1)],false,[]⟩),
 (83,⟨false,[.sl 159 h_9],[],false,[]⟩),
 (106,⟨true,h_7,[(0,1),(1,1),(2,1),(3,1),(4,1),(5,1),(6,1),(7,1),(8,1),(9,2),(11,1)],false,[]⟩),
 (125,⟨true,h_1,[(0,1),(1,1),(2,1)],false,[]⟩),
 (147,⟨true,h_2,[(0,2),(2,1),(3,1)],true,[]⟩),
 (159,⟨true,h_9,[(0,2),(2,11)],false,[]⟩),
 (169,⟨true,h_4,[(0,2),(2,1),(3,1)],false,[]⟩),
 (170,⟨false,[.int .u64],[],false,[]⟩),
 (204,⟨true,h_3,[(0,1),(1,1),(2,1)],false,[]⟩)]
theorem Hu:A7g Tryz.prog tys=true:=by kernel_rfl
theorem J2:Tryz.prog.follows .mixedOrders=true:=by kernel_rfl
abbrev C9 (C:Fns):Cfg:=⟨Asa tys,Sb C,Pk C,3,4⟩
theorem mkF {f:FuncId} {fn:Func} {kd:Kind} {ps:List (Bool×List Sh)} {R:Type} {T:Ni ps→Tree R} {rvs:R→List RV×List RV} (C:Fns) (hc:Il Tryz.prog C) (hf:Tryz.prog.funcs[f]? =some fn) (np:Nat) (hn:(fn.name== "runtime.NumGoroutine")=false:=by kernel_rfl) (hb:fn.body.isSome=true:=by kernel_rfl) (hl:Be (fn.body.getD .skip)=[]:=by kernel_rfl)
  (he: ∀d,F6 (C9 C) np (fun _ _=>.fail) fn kd (mkA ps d)=(T d).run fun r=>some (rvs r):=by intro d;kernel_rfl):Fn Tryz.prog f kd (Am ps (fun d=>(T d).val) rvs):=
 K2 (E5 J2 Hu hc) hf hn hb (fun cx b hp hbb=>by rw[hl]at hbb;cases hbb) he
abbrev lpq (r:Nat) (K:Sk) (z:Nat) (X:List (Ex×Sk)) (B:K.den→Option (K.den⊕Oo X)):E0:=fun i st=>cond (Nat.beq i r) (lam K z X B st) .fail
theorem Ca {f:FuncId} {fn:Func} {kd:Kind} {ps:List (Bool×List Sh)} {R:Type} {T:Ni ps→Tree R} {rvs:R→List RV×List RV} (C:Fns) (hc:Il Tryz.prog C) (K:Sk) (z:Nat) (X:List (Ex×Sk)) (r:Nat) (B:K.den→Option (K.den⊕Oo X)) (hf:Tryz.prog.funcs[f]? =some fn) (np:Nat) (hn:(fn.name== "runtime.NumGoroutine")=false:=by kernel_rfl) (hb:fn.body.isSome=true:=by kernel_rfl) (h1:Be (fn.body.getD .skip)=[Ax fn 0]:=by kernel_rfl) (h2:Be (Ax fn 0)=[]:=by kernel_rfl)
  (hq:lpq r K z X B (Kf (Ax fn 0))=lam K z X B:=by kernel_rfl) (hl: ∀d,bod (C9 C) np fn.ntmps (lpq r K z X B) (Ax fn 0) K z X d=B d:=by intro d;kernel_rfl)
  (he: ∀d,F6 (C9 C) np (lpq r K z X B) fn kd (mkA ps d)=(T d).run fun r=>some (rvs r):=by intro d;kernel_rfl):Fn Tryz.prog f kd (Am ps (fun d=>(T d).val) rvs):=
 K2 (E5 J2 Hu hc) hf hn hb (fun cx b hp hbb=>Cv h1 ⟨D6 (E5 J2 Hu hc) hp (Cv h2 trivial) hq hl,trivial⟩ b hbb) he
def Au4:Ao:=Am [g_0] (fun d=>(A59 d.1).val) fun r=>([rv g_1 r],[])
theorem A0k:Fn Tryz.prog 6 .plain Au4:=mkF [] trivial Tryz.func6 0
def Zm:Ao:=Am [g_0] (fun d=>(Aj0 d.1).val) fun r=>([rv g_2 r],[])
theorem Ae0:Fn Tryz.prog 39 .ret Zm:=Ca [] trivial ⟨[(0,.v false [(.sl 5 [.int .u8],.ro)]),(3,.v false [(.int .i64,.nil)]),(4,.v false [(.int .i64,.nil)])],[],[]⟩ 4000000 [((.exit 0),⟨[(0,.v false [(.sl 5 [.int .u8],.ro)]),(3,.v false [(.int .i64,.nil)])],[],[]⟩)] 3 Sc Tryz.func39 0
def U5:Ao:=Am [g_2] (fun d=>(Ae1 d.1).val) fun r=>([rv g_3 r.1],[rv g_2 r.2])
theorem Aa2:Fn Tryz.prog 97 (.box [3] true true) U5:=mkF [] trivial Tryz.func97 1
def Cc:Ao:=Am [g_2,g_3] (fun d=>(Aa3 d.1 d.2.1).val) fun r=>([rv g_3 r.1],[rv g_2 r.2])
theorem B7:Fn Tryz.prog 43 (.box [3] true true) Cc:=mkF [(97,(.box [3] true true),U5)] ⟨Aa2,trivial⟩ Tryz.func43 1
def Dx:Ao:=Am [g_2,g_3] (fun d=>(Aa4 d.1 d.2.1).val) fun r=>([rv g_0 r.1],[rv g_2 r.2])
theorem Du:Fn Tryz.prog 94 (.box [3] true true) Dx:=Ca [(97,(.box [3] true true),U5)] ⟨Aa2,trivial⟩ ⟨[(0,.box 0 0),(1,.v false [(.int .i64,.nil)]),(5,.v false [(.sl 5 [.int .u8],(.own 4000000))]),(6,.v false [(.int .i64,.nil)])],[(0,[(.sl 5 [.int .u8],(.pin 0)),(.int .i64,.nil),(.int .i64,.nil)])],[4000000]⟩ 4000000 [((.exit 0),⟨[(0,.box 0 0),(5,.v false [(.sl 5 [.int .u8],(.own 4000000))])],[(0,[(.sl 5 [.int .u8],(.pin 0)),(.int .i64,.nil),(.int .i64,.nil)])],[4000000]⟩)] 3 Kg Tryz.func94 1
def Aoj:Ao:=Am [g_2] (fun d=>(Aa5 d.1).val) fun r=>([rv g_4 r.1],[rv g_2 r.2])
theorem A0l:Fn Tryz.prog 165 (.box [3] true true) Aoj:=Ca [(43,(.box [3] true true),Cc),(94,(.box [3] true true),Dx)] ⟨B7,Du,trivial⟩ ⟨[(0,.box 0 0),(3,.v false [(.sl 22 [.sl 5 [.int .u8]],(.own 4000000))]),(4,.v false [(.int .i64,.nil)])],[(0,[(.sl 5 [.int .u8],(.pin 0)),(.int .i64,.nil),(.int .i64,.nil)])],[4000000]⟩ 4000000 [((.exit 0),⟨[(0,.box 0 0),(3,.v false [(.sl 22 [.sl 5 [.int .u8]],(.own 4000000))])],[(0,[(.sl 5 [.int .u8],(.pin 0)),(.int .i64,.nil),(.int .i64,.nil)])],[4000000]⟩)] 3 Oc Tryz.func165 1
def Aa6:Ao:=Am [g_5] (fun d=>(Aa7 d.1).val) fun r=>([rv g_5 r],[])
theorem Aj1:Fn Tryz.prog 123 .plain Aa6:=mkF [] trivial Tryz.func123 0
def Cb:Ao:=Am [g_3,g_3,g_3] (fun d=>(Ap6 d.1 d.2.1 d.2.2.1).val) fun r=>([rv g_1 r],[])
theorem Bx:Fn Tryz.prog 56 .plain Cb:=mkF [] trivial Tryz.func56 0
def Ae2:Ao:=Am [g_5] (fun d=>(Ae3 d.1).val) fun r=>([rv g_1 r],[])
theorem Aok:Fn Tryz.prog 124 .plain Ae2:=mkF [(56,.plain,Cb)] ⟨Bx,trivial⟩ Tryz.func124 0
def Oq:Ao:=Am [g_0,g_3,g_3] (fun d=>(Ap7 d.1 d.2.1 d.2.2.1).val) fun r=>([rv g_0 r],[])
theorem O7:Fn Tryz.prog 140 .plain Oq:=Ca [] trivial ⟨[(1,.v false [(.int .i64,.nil)]),(7,.v false [(.sl 5 [.int .u8],(.own 6000000))]),(8,.v false [(.int .i64,.nil)])],[],[6000000]⟩ 6000000 [((.exit 0),⟨[(7,.v false [(.sl 5 [.int .u8],(.own 6000000))])],[],[6000000]⟩)] 5 Pm Tryz.func140 0
def A6a:Ao:=Am [g_3] (fun d=>(Au5 d.1).val) fun r=>([rv g_0 r],[])
theorem Bcv:Fn Tryz.prog 201 .plain A6a:=Ca [(140,.plain,Oq)] ⟨O7,trivial⟩ ⟨[(0,.v false [(.int .i64,.nil)]),(3,.v false [(.sl 5 [.int .u8],(.own 5000000))])],[],[5000000]⟩ 5000000 [((.exit 0),⟨[(0,.v false [(.int .i64,.nil)]),(3,.v false [(.sl 5 [.int .u8],(.own 5000000))])],[],[5000000]⟩)] 4 Aj2 Tryz.func201 0
def Aw8:Ao:=Am [] (fun d=>(Aw9).val) fun r=>([rv g_6 r],[])
theorem A7h:Fn Tryz.prog 202 .plain Aw8:=mkF [] trivial Tryz.func202 0
def Aol:Ao:=Am [g_6] (fun d=>(Aa8 d.1).val) fun r=>([rv g_1 r],[])
theorem A0m:Fn Tryz.prog 229 .plain Aol:=Ca [(56,.plain,Cb)] ⟨Bx,trivial⟩ ⟨[(0,.v false [(.sl 3 [.int .i64],.ro)]),(3,.v false [(.int .i64,.nil)])],[],[]⟩ 3000000 [(.ret,⟨[(2,.v false [(.bool,.nil)])],[],[]⟩),((.exit 0),⟨[(0,.v false [(.sl 3 [.int .i64],.ro)])],[],[]⟩)] 2 Kh Tryz.func229 0
def A6b:Ao:=Am [] (fun d=>(A6c).val) fun r=>([rv g_6 r],[])
theorem Bcw:Fn Tryz.prog 230 .plain A6b:=mkF [] trivial Tryz.func230 0
def A0n:Ao:=Am [g_0,g_3,g_3] (fun d=>(Ap8 d.1 d.2.1 d.2.2.1).val) fun r=>([rv g_3 r.1,rv g_3 r.2.1,rv g_1 r.2.2],[])
theorem A98:Fn Tryz.prog 237 .plain A0n:=Ca [] trivial ⟨[(0,.v false [(.sl 5 [.int .u8],.ro)]),(1,.v false [(.int .i64,.nil)]),(2,.v false [(.int .i64,.nil)]),(9,.v false [(.int .i64,.nil)]),(10,.v false [(.int .i64,.nil)])],[],[]⟩ 6000000 [((.exit 0),⟨[(1,.v false [(.int .i64,.nil)]),(2,.v false [(.int .i64,.nil)]),(9,.v false [(.int .i64,.nil)])],[],[]⟩)] 5 Mq Tryz.func237 0
def Au6:Ao:=Am [g_3,g_3] (fun d=>(Au7 d.1 d.2.1).val) fun r=>([rv g_3 r],[])
theorem A0o:Fn Tryz.prog 232 .plain Au6:=mkF [] trivial Tryz.func232 0
def Aj3:Ao:=Am [g_0] (fun d=>(Pn d.1).val) fun r=>([rv g_6 r],[])
def Lb:Fns:=[(237,.plain,A0n),(232,.plain,Au6)]
theorem V9:CfgOk Tryz.prog (C9 Lb):=E5 J2 Hu (show Il Tryz.prog Lb from⟨A98,A0o,trivial⟩)
def Zn:Sk:=⟨[(3,.v false [(.sl 3 [.int .i64],(.own 11000000))]),(8,.v false [(.int .i64,.nil)])],[],[11000000]⟩
def Zo:List (Ex×Sk):=[((.exit 2),⟨[(3,.v false [(.sl 3 [.int .i64],(.own 11000000))])],[],[11000000]⟩)]
def Adq:Sk:=⟨[(0,.v false [(.sl 5 [.int .u8],.ro)]),(3,.v false [(.sl 3 [.int .i64],(.own 6000000))]),(4,.v false [(.int .i64,.nil)])],[],[6000000]⟩
def Adr:List (Ex×Sk):=[((.exit 0),⟨[(3,.v false [(.sl 3 [.int .i64],(.own 6000000))])],[],[6000000]⟩)]
def Lc:E0:=fun i st=>cond (Nat.beq i 5) (lam Adq 6000000 Adr Hf st) <| cond (Nat.beq i 10) (lam Zn 11000000 Zo Gj st) <| .fail
theorem Asb (cx:Cx) (hp:cx.pin.length≤0):De Tryz.prog cx Tryz.f231.ntmps Lc (Ax Tryz.f231 0):=D6 V9 hp (Cv (by kernel_rfl:Be (Ax Tryz.f231 0)=[]) trivial) (by kernel_rfl) (fun d=>(by kernel_rfl:bod (C9 Lb) 0 Tryz.f231.ntmps Lc (Ax Tryz.f231 0) Adq 6000000 Adr d=Hf d))
theorem Ap9 (cx:Cx) (hp:cx.pin.length≤0):De Tryz.prog cx Tryz.f231.ntmps Lc (Ax Tryz.f231 1):=D6 V9 hp (Cv (by kernel_rfl:Be (Ax Tryz.f231 1)=[]) trivial) (by kernel_rfl) (fun d=>(by kernel_rfl:bod (C9 Lb) 0 Tryz.f231.ntmps Lc (Ax Tryz.f231 1) Zn 11000000 Zo d=Gj d))
theorem Aza:Fn Tryz.prog 231 .plain Aj3:=K2 V9 Tryz.func231 (by kernel_rfl) (by kernel_rfl) (fun cx b hp hb=>Cv (by kernel_rfl:Be (Tryz.f231.body.getD .skip)=[Ax Tryz.f231 0,Ax Tryz.f231 1]) ⟨Asb cx hp,Ap9 cx hp,trivial⟩ b hb) (fun d=>(by kernel_rfl:F6 (C9 Lb) 0 Lc Tryz.f231 .plain (mkA [g_0] d)=(Pn d.1).run fun r=>some ([rv g_6 r],[])))
def Aj4:Ao:=Am [g_6,g_0] (fun d=>(Po d.1 d.2.1).val) fun r=>([rv g_6 r],[])
def Ld:Fns:=[(229,.plain,Aol),(230,.plain,A6b),(231,.plain,Aj3),(232,.plain,Au6)]
theorem Wa:CfgOk Tryz.prog (C9 Ld):=E5 J2 Hu (show Il Tryz.prog Ld from⟨A0m,Bcw,Aza,A0o,trivial⟩)
def Zp:Sk:=⟨[(0,.v false [(.sl 3 [.int .i64],.ro)]),(5,.v false [(.sl 3 [.int .i64],(.own 23000000))]),(19,.v false [(.sl 3 [.int .i64],(.own 23000001))]),(20,.v false [(.int .i64,.nil)])],[],[23000000,23000001]⟩
def Zq:List (Ex×Sk):=[((.exit 2),⟨[(5,.v false [(.sl 3 [.int .i64],(.own 23000000))])],[],[23000000]⟩)]
def Ads:Sk:=⟨[(0,.v false [(.sl 3 [.int .i64],.ro)]),(5,.v false [(.sl 3 [.int .i64],(.own 9000000))]),(6,.v false [(.sl 3 [.int .i64],(.own 9000001))]),(7,.v false [(.sl 3 [.int .i64],(.own 9000002))]),(8,.v false [(.int .i64,.nil)]),(9,.v false [(.int .i64,.nil)]),(10,.v false [(.int .i64,.nil)]),(11,.v false [(.int .i64,.nil)]),(12,.v false [(.int .i64,.nil)]),(13,.v false [(.int .i64,.nil)]),(14,.v false [(.int .i64,.nil)]),(15,.v false [(.int .i64,.nil)]),(16,.v false [(.int .i64,.nil)])],[],[9000000,9000001,9000002]⟩
def Adt:List (Ex×Sk):=[((.exit 0),⟨[(0,.v false [(.sl 3 [.int .i64],.ro)]),(5,.v false [(.sl 3 [.int .i64],(.own 9000000))]),(8,.v false [(.int .i64,.nil)]),(9,.v false [(.int .i64,.nil)]),(10,.v false [(.int .i64,.nil)]),(11,.v false [(.int .i64,.nil)]),(12,.v false [(.int .i64,.nil)]),(13,.v false [(.int .i64,.nil)]),(14,.v false [(.int .i64,.nil)]),(15,.v false [(.int .i64,.nil)])],[],[9000000]⟩)]
def Le:E0:=fun i st=>cond (Nat.beq i 8) (lam Ads 9000000 Adt Fy st) <| cond (Nat.beq i 22) (lam Zp 23000000 Zq Ff st) <| .fail
theorem Asc (cx:Cx) (hp:cx.pin.length≤0):De Tryz.prog cx Tryz.f203.ntmps Le (Ax Tryz.f203 0):=D6 Wa hp (Cv (by kernel_rfl:Be (Ax Tryz.f203 0)=[]) trivial) (by kernel_rfl) (fun d=>(by kernel_rfl:bod (C9 Ld) 0 Tryz.f203.ntmps Le (Ax Tryz.f203 0) Ads 9000000 Adt d=Fy d))
theorem Aqa (cx:Cx) (hp:cx.pin.length≤0):De Tryz.prog cx Tryz.f203.ntmps Le (Ax Tryz.f203 1):=D6 Wa hp (Cv (by kernel_rfl:Be (Ax Tryz.f203 1)=[]) trivial) (by kernel_rfl) (fun d=>(by kernel_rfl:bod (C9 Ld) 0 Tryz.f203.ntmps Le (Ax Tryz.f203 1) Zp 23000000 Zq d=Ff d))
theorem Azb:Fn Tryz.prog 203 .plain Aj4:=K2 Wa Tryz.func203 (by kernel_rfl) (by kernel_rfl) (fun cx b hp hb=>Cv (by kernel_rfl:Be (Tryz.f203.body.getD .skip)=[Ax Tryz.f203 0,Ax Tryz.f203 1]) ⟨Asc cx hp,Aqa cx hp,trivial⟩ b hb) (fun d=>(by kernel_rfl:F6 (C9 Ld) 0 Le Tryz.f203 .plain (mkA [g_6,g_0] d)=(Po d.1 d.2.1).run fun r=>some ([rv g_6 r],[])))
def Axa:Ao:=Am [g_6] (fun d=>(Aj5 d.1).val) fun r=>([rv g_0 r],[])
theorem A7i:Fn Tryz.prog 204 .plain Axa:=Ca [(140,.plain,Oq)] ⟨O7,trivial⟩ ⟨[(0,.v false [(.sl 3 [.int .i64],.ro)]),(3,.v false [(.sl 5 [.int .u8],(.own 4000000))]),(4,.v false [(.int .i64,.nil)])],[],[4000000]⟩ 4000000 [((.exit 0),⟨[(3,.v false [(.sl 5 [.int .u8],(.own 4000000))])],[],[4000000]⟩)] 3 Kp Tryz.func204 0
def Au8:Ao:=Am [g_0] (fun d=>(Au9 d.1).val) fun r=>([rv g_0 r],[])
theorem A0p:Fn Tryz.prog 173 .plain Au8:=Ca [(201,.plain,A6a),(202,.plain,Aw8),(203,.plain,Aj4),(204,.plain,Axa)] ⟨Bcv,A7h,Azb,A7i,trivial⟩ ⟨[(3,.v false [(.sl 5 [.int .u8],(.own 7000000))]),(4,.v false [(.sl 3 [.int .i64],(.own 7000001))]),(5,.v false [(.int .i64,.nil)])],[],[7000000,7000001]⟩ 7000000 [((.exit 0),⟨[(4,.v false [(.sl 3 [.int .i64],(.own 7000000))])],[],[7000000]⟩)] 6 O8 Tryz.func173 0
def Aj6:Ao:=Am [g_0] (fun d=>(Wb d.1).val) fun r=>([rv g_0 r],[])
theorem Azc:Fn Tryz.prog 172 .plain Aj6:=Ca [(173,.plain,Au8)] ⟨A0p,trivial⟩ ⟨[(3,.v false [(.sl 5 [.int .u8],(.own 7000000))])],[],[7000000]⟩ 7000000 [((.exit 0),⟨[(3,.v false [(.sl 5 [.int .u8],(.own 7000000))])],[],[7000000]⟩)] 6 Mr Tryz.func172 0
def Wc:Ao:=Am [g_0,g_0] (fun d=>(Aqb d.1 d.2.1).val) fun r=>([rv g_0 r],[])
theorem Zr:Fn Tryz.prog 141 .plain Wc:=Ca [(172,.plain,Aj6),(173,.plain,Au8)] ⟨Azc,A0p,trivial⟩ ⟨[(1,.v false [(.sl 5 [.int .u8],.ro)]),(5,.v false [(.sl 5 [.int .u8],(.own 8000000))]),(6,.v false [(.sl 5 [.int .u8],(.own 8000001))]),(7,.v false [(.sl 5 [.int .u8],(.own 8000002))]),(8,.v false [(.int .i64,.nil)])],[],[8000000,8000001,8000002]⟩ 8000000 [((.exit 0),⟨[(1,.v false [(.sl 5 [.int .u8],.ro)]),(6,.v false [(.sl 5 [.int .u8],(.own 8000000))]),(7,.v false [(.sl 5 [.int .u8],(.own 8000001))])],[],[8000000,8000001]⟩)] 7 Ms Tryz.func141 0
def Asd:Ao:=Am [g_0,g_3] (fun d=>(Ae4 d.1 d.2.1).val) fun r=>([rv g_0 r],[])
theorem A4i:Fn Tryz.prog 127 .plain Asd:=mkF [(56,.plain,Cb),(140,.plain,Oq),(141,.plain,Wc)] ⟨Bx,O7,Zr,trivial⟩ Tryz.func127 0
def Aqc:Ao:=Am [g_5] (fun d=>(Aqd d.1).val) fun r=>([rv g_5 r.1,rv g_0 r.2],[])
theorem Axb:Fn Tryz.prog 68 .plain Aqc:=mkF [(123,.plain,Aa6),(124,.plain,Ae2),(127,.plain,Asd)] ⟨Aj1,Aok,A4i,trivial⟩ Tryz.func68 0
def Ase:Ao:=Am [g_0,g_0,g_3] (fun d=>(Ae5 d.1 d.2.1 d.2.2.1).val) fun r=>([rv g_0 r.1,rv g_1 r.2],[])
theorem A4j:Fn Tryz.prog 168 .plain Ase:=Ca [(56,.plain,Cb),(141,.plain,Wc)] ⟨Bx,Zr,trivial⟩ ⟨[(0,.v false [(.sl 5 [.int .u8],.ro)]),(1,.v false [(.sl 5 [.int .u8],.ro)]),(2,.v false [(.int .i64,.nil)]),(8,.v false [(.sl 5 [.int .u8],(.own 7000000))]),(9,.v false [(.sl 5 [.int .u8],(.own 7000001))]),(10,.v false [(.int .i64,.nil)])],[],[7000000,7000001]⟩ 7000000 [((.exit 0),⟨[(2,.v false [(.int .i64,.nil)]),(8,.v false [(.sl 5 [.int .u8],(.own 7000000))])],[],[7000000]⟩)] 6 I9 Tryz.func168 0
def Mt:Ao:=Am [g_0,g_7] (fun d=>(Ae6 d.1 d.2.1).val) fun r=>([rv g_0 r],[])
theorem Nj:Fn Tryz.prog 128 .plain Mt:=mkF [(168,.plain,Ase)] ⟨A4j,trivial⟩ Tryz.func128 0
def U6:Ao:=Am [g_0] (fun d=>(Ae7 d.1).val) fun r=>([rv g_8 r],[])
theorem Aa9:Fn Tryz.prog 69 .plain U6:=mkF [(128,.plain,Mt)] ⟨Nj,trivial⟩ Tryz.func69 0
def U7:Ao:=Am [g_3] (fun d=>(Ae8 d.1).val) fun r=>([rv g_9 r],[])
theorem Aba:Fn Tryz.prog 70 .plain U7:=mkF [(56,.plain,Cb)] ⟨Bx,trivial⟩ Tryz.func70 0
def Aj7:Ao:=Am [g_8] (fun d=>(Axc d.1).val) fun r=>([rv g_1 r],[])
theorem Asf:Fn Tryz.prog 85 .plain Aj7:=mkF [] trivial Tryz.func85 0
def Aqe:Ao:=Am [g_9] (fun d=>(Aqf d.1).val) fun r=>([rv g_3 r],[])
theorem Axd:Fn Tryz.prog 50 .plain Aqe:=Ca [] trivial ⟨[(1,.box 1 0),(3,.v false [(.int .i64,.nil)]),(4,.v false [(.int .i64,.nil)])],[(1,[(.int .i64,.nil),(.sl 40 B5,.ro)])],[]⟩ 4000000 [((.exit 0),⟨[(3,.v false [(.int .i64,.nil)])],[],[]⟩)] 3 Pp Tryz.func50 0
def Abb:Ao:=Am [Kx] (fun d=>(Abc d.1).val) fun r=>([rv g_1 r],[])
theorem Aj8:Fn Tryz.prog 157 .plain Abb:=mkF [] trivial Tryz.func157 0
def Ai3:Ao:=Am [J1] (fun d=>(Ua d.1).val) fun r=>([rv g_1 r],[])
theorem Ava:Fn Tryz.prog 104 .plain Ai3:=mkF [(157,.plain,Abb)] ⟨Aj8,trivial⟩ Tryz.func104 0
def Rh:Ao:=Am [g_3] (fun d=>(Ae9 d.1).val) fun r=>([rv I3 r],[])
theorem Th:Fn Tryz.prog 105 .plain Rh:=mkF [(56,.plain,Cb)] ⟨Bx,trivial⟩ Tryz.func105 0
def Aj9:Ao:=Am [Ky,g_3] (fun d=>(Aka d.1 d.2.1).val) fun r=>([rv g_1 r],[])
theorem Asg:Fn Tryz.prog 220 .plain Aj9:=mkF [] trivial Tryz.func220 0
def Akb:Ao:=Am [Ky] (fun d=>(Zs d.1).val) fun r=>([rv g_1 r],[])
def Ti:Fns:=[(56,.plain,Cb),(220,.plain,Aj9)]
theorem Akc:CfgOk Tryz.prog (C9 Ti):=E5 J2 Hu (show Il Tryz.prog Ti from⟨Bx,Asg,trivial⟩)
def Akd:Sk:=⟨[(1,.box 1 0),(4,.v false [(.int .i64,.nil)])],[(1,[(.int .i64,.nil),(.sl 3 [.int .i64],.ro)])],[]⟩
def Ake:List (Ex×Sk):=[(.ret,⟨[(2,.v false [(.bool,.nil)])],[],[]⟩),((.exit 2),⟨[],[],[]⟩)]
def Aom:Sk:=⟨[(1,.box 1 0),(3,.v false [(.int .i64,.nil)])],[(1,[(.int .i64,.nil),(.sl 3 [.int .i64],.ro)])],[]⟩
def Aon:List (Ex×Sk):=[(.ret,⟨[(2,.v false [(.bool,.nil)])],[],[]⟩),((.exit 0),⟨[(1,.box 1 0)],[(1,[(.int .i64,.nil),(.sl 3 [.int .i64],.ro)])],[]⟩)]
def Tj:E0:=fun i st=>cond (Nat.beq i 4) (lam Aom 5000000 Aon I4 st) <| cond (Nat.beq i 11) (lam Akd 12000000 Ake Gc st) <| .fail
theorem A0q (cx:Cx) (hp:cx.pin.length≤0):De Tryz.prog cx Tryz.f193.ntmps Tj (Ax Tryz.f193 0):=D6 Akc hp (Cv (by kernel_rfl:Be (Ax Tryz.f193 0)=[]) trivial) (by kernel_rfl) (fun d=>(by kernel_rfl:bod (C9 Ti) 0 Tryz.f193.ntmps Tj (Ax Tryz.f193 0) Aom 5000000 Aon d=I4 d))
theorem Azd (cx:Cx) (hp:cx.pin.length≤0):De Tryz.prog cx Tryz.f193.ntmps Tj (Ax Tryz.f193 1):=D6 Akc hp (Cv (by kernel_rfl:Be (Ax Tryz.f193 1)=[]) trivial) (by kernel_rfl) (fun d=>(by kernel_rfl:bod (C9 Ti) 0 Tryz.f193.ntmps Tj (Ax Tryz.f193 1) Akd 12000000 Ake d=Gc d))
theorem Ash:Fn Tryz.prog 193 .plain Akb:=K2 Akc Tryz.func193 (by kernel_rfl) (by kernel_rfl) (fun cx b hp hb=>Cv (by kernel_rfl:Be (Tryz.f193.body.getD .skip)=[Ax Tryz.f193 0,Ax Tryz.f193 1]) ⟨A0q cx hp,Azd cx hp,trivial⟩ b hb) (fun d=>(by kernel_rfl:F6 (C9 Ti) 0 Tj Tryz.f193 .plain (mkA [Ky] d)=(Zs d.1).run fun r=>some ([rv g_1 r],[])))
def A0r:Ao:=Am [Kx] (fun d=>(Aqg d.1).val) fun r=>([rv g_1 r],[])
theorem A99:Fn Tryz.prog 158 .plain A0r:=mkF [(56,.plain,Cb),(193,.plain,Akb)] ⟨Bx,Ash,trivial⟩ Tryz.func158 0
def Asi:Ao:=Am [J1] (fun d=>(Afa d.1).val) fun r=>([rv g_1 r],[])
theorem A4k:Fn Tryz.prog 106 .plain Asi:=mkF [(56,.plain,Cb),(158,.plain,A0r),(157,.plain,Abb)] ⟨Bx,A99,Aj8,trivial⟩ Tryz.func106 0
def Afb:Ao:=Am [g_0,g_0] (fun d=>(Asj d.1 d.2.1).val) fun r=>([rv g_1 r],[])
theorem Aoo:Fn Tryz.prog 107 .plain Afb:=mkF [] trivial Tryz.func107 0
def Im:Ao:=Am [I3] (fun d=>(Afc d.1).val) fun r=>([rv g_1 r],[])
theorem I5:Fn Tryz.prog 138 .plain Im:=mkF [(56,.plain,Cb)] ⟨Bx,trivial⟩ Tryz.func138 0
def Sd:Ao:=Am [Ht] (fun d=>(Se d.1).val) fun r=>([rv g_1 r],[])
def Nk:Fns:=[(138,.plain,Im),(56,.plain,Cb)]
theorem Abd:CfgOk Tryz.prog (C9 Nk):=E5 J2 Hu (show Il Tryz.prog Nk from⟨I5,Bx,trivial⟩)
def Ai4:Sk:=⟨[(1,.box 1 0),(3,.v false [(.int .i64,.nil)])],[(1,[(.int .i64,.nil),(.int .i64,.nil),(.sl 169 h_4,.ro)])],[]⟩
def Ai5:List (Ex×Sk):=[(.ret,⟨[(2,.v false [(.bool,.nil)])],[],[]⟩),((.exit 0),⟨[],[],[]⟩)]
def Adu:Sk:=⟨[(1,.box 1 0),(3,.v false [(.int .i64,.nil)]),(4,.box 4 0),(5,.v false [(.int .i64,.nil)])],[(1,[(.int .i64,.nil),(.int .i64,.nil),(.sl 169 h_4,.ro)]),(4,[(.int .i64,.nil),(.int .i64,.nil),(.sl 5 [.int .u8],.ro),(.int .i64,.nil)])],[]⟩
def Adv:List (Ex×Sk):=[(.ret,⟨[(2,.v false [(.bool,.nil)])],[],[]⟩),((.exit 2),⟨[(1,.box 1 0),(3,.v false [(.int .i64,.nil)])],[(1,[(.int .i64,.nil),(.int .i64,.nil),(.sl 169 h_4,.ro)])],[]⟩)]
def Nl:E0:=fun i st=>cond (Nat.beq i 10) (lam Adu 11000000 Adv Fz st) <| cond (Nat.beq i 4) (lam Ai4 5000000 Ai5 H4 st) <| .fail
theorem Ask (cx:Cx) (hp:cx.pin.length≤0):De Tryz.prog cx Tryz.f108.ntmps Nl (Ax Tryz.f108 1):=D6 Abd hp (Cv (by kernel_rfl:Be (Ax Tryz.f108 1)=[]) trivial) (by kernel_rfl) (fun d=>(by kernel_rfl:bod (C9 Nk) 0 Tryz.f108.ntmps Nl (Ax Tryz.f108 1) Adu 11000000 Adv d=Fz d))
theorem Avb (cx:Cx) (hp:cx.pin.length≤0):De Tryz.prog cx Tryz.f108.ntmps Nl (Ax Tryz.f108 0):=D6 Abd hp (Cv (by kernel_rfl:Be (Ax Tryz.f108 0)=[Ax Tryz.f108 1]) ⟨Ask cx hp,trivial⟩) (by kernel_rfl) (fun d=>(by kernel_rfl:bod (C9 Nk) 0 Tryz.f108.ntmps Nl (Ax Tryz.f108 0) Ai4 5000000 Ai5 d=H4 d))
theorem Wd:Fn Tryz.prog 108 .plain Sd:=K2 Abd Tryz.func108 (by kernel_rfl) (by kernel_rfl) (fun cx b hp hb=>Cv (by kernel_rfl:Be (Tryz.f108.body.getD .skip)=[Ax Tryz.f108 0]) ⟨Avb cx hp,trivial⟩ b hb) (fun d=>(by kernel_rfl:F6 (C9 Nk) 0 Nl Tryz.f108 .plain (mkA [Ht] d)=(Se d.1).run fun r=>some ([rv g_1 r],[])))
def U8:Ao:=Am [H1] (fun d=>(Afd d.1).val) fun r=>([rv g_1 r],[])
theorem Abe:Fn Tryz.prog 48 .plain U8:=mkF [(56,.plain,Cb),(104,.plain,Ai3),(105,.plain,Rh),(106,.plain,Asi),(107,.plain,Afb),(108,.plain,Sd)] ⟨Bx,Ava,Th,A4k,Aoo,Wd,trivial⟩ Tryz.func48 0
def Afe:Ao:=Am [g_9,g_0] (fun d=>(Aff d.1 d.2.1).val) fun r=>([rv g_3 r],[])
theorem Aop:Fn Tryz.prog 49 .plain Afe:=Ca [(107,.plain,Afb)] ⟨Aoo,trivial⟩ ⟨[(1,.v false [(.sl 5 [.int .u8],.ro)]),(2,.box 2 0),(5,.v false [(.int .i64,.nil)])],[(2,[(.int .i64,.nil),(.sl 40 B5,.ro)])],[]⟩ 3000000 [(.ret,⟨[(4,.v false [(.int .i64,.nil)])],[],[]⟩),((.exit 0),⟨[],[],[]⟩)] 2 Lf Tryz.func49 0
def Akf:Ao:=Am [g_9] (fun d=>(Akg d.1).val) fun r=>([rv g_1 r],[])
theorem Asl:Fn Tryz.prog 16 .plain Akf:=Ca [(56,.plain,Cb),(50,.plain,Aqe),(48,.plain,U8),(49,.plain,Afe)] ⟨Bx,Axd,Abe,Aop,trivial⟩ ⟨[(1,.box 1 0),(3,.v false [(.int .i64,.nil)])],[(1,[(.int .i64,.nil),(.sl 40 B5,.ro)])],[]⟩ 5000000 [(.ret,⟨[(2,.v false [(.bool,.nil)])],[],[]⟩),((.exit 0),⟨[],[],[]⟩)] 4 Nm Tryz.func16 0
def Ki:Ao:=Am [Ng] (fun d=>(Od d.1).val) fun r=>([rv g_1 r],[])
def Kj:Fns:=[(138,.plain,Im),(56,.plain,Cb)]
theorem Ub:CfgOk Tryz.prog (C9 Kj):=E5 J2 Hu (show Il Tryz.prog Kj from⟨I5,Bx,trivial⟩)
def Zt:Sk:=⟨[(0,.v false [(.sl 147 h_2,.ro)]),(3,.v false [(.int .i64,.nil)])],[],[]⟩
def Zu:List (Ex×Sk):=[(.ret,⟨[(2,.v false [(.bool,.nil)])],[],[]⟩),((.exit 0),⟨[],[],[]⟩)]
def Zv:Sk:=⟨[(0,.v false [(.sl 147 h_2,.ro)]),(3,.v false [(.int .i64,.nil)]),(4,.v false [(.int .i64,.nil)])],[],[]⟩
def Zw:List (Ex×Sk):=[(.ret,⟨[(2,.v false [(.bool,.nil)])],[],[]⟩),((.exit 2),⟨[(0,.v false [(.sl 147 h_2,.ro)]),(3,.v false [(.int .i64,.nil)])],[],[]⟩)]
def Kk:E0:=fun i st=>cond (Nat.beq i 9) (lam Zv 10000000 Zw Fg st) <| cond (Nat.beq i 4) (lam Zt 5000000 Zu Gk st) <| .fail
theorem Aqh (cx:Cx) (hp:cx.pin.length≤0):De Tryz.prog cx Tryz.f125.ntmps Kk (Ax Tryz.f125 1):=D6 Ub hp (Cv (by kernel_rfl:Be (Ax Tryz.f125 1)=[]) trivial) (by kernel_rfl) (fun d=>(by kernel_rfl:bod (C9 Kj) 0 Tryz.f125.ntmps Kk (Ax Tryz.f125 1) Zv 10000000 Zw d=Fg d))
theorem Aqi (cx:Cx) (hp:cx.pin.length≤0):De Tryz.prog cx Tryz.f125.ntmps Kk (Ax Tryz.f125 0):=D6 Ub hp (Cv (by kernel_rfl:Be (Ax Tryz.f125 0)=[Ax Tryz.f125 1]) ⟨Aqh cx hp,trivial⟩) (by kernel_rfl) (fun d=>(by kernel_rfl:bod (C9 Kj) 0 Tryz.f125.ntmps Kk (Ax Tryz.f125 0) Zt 5000000 Zu d=Gk d))
theorem Mu:Fn Tryz.prog 125 .plain Ki:=K2 Ub Tryz.func125 (by kernel_rfl) (by kernel_rfl) (fun cx b hp hb=>Cv (by kernel_rfl:Be (Tryz.f125.body.getD .skip)=[Ax Tryz.f125 0]) ⟨Aqi cx hp,trivial⟩ b hb) (fun d=>(by kernel_rfl:F6 (C9 Kj) 0 Kk Tryz.f125 .plain (mkA [Ng] d)=(Od d.1).run fun r=>some ([rv g_1 r],[])))
def Tk:Ao:=Am [g_0] (fun d=>(Akh d.1).val) fun r=>([rv g_1 r],[])
theorem U9:Fn Tryz.prog 126 .plain Tk:=mkF [(56,.plain,Cb)] ⟨Bx,trivial⟩ Tryz.func126 0
def Pq:Ao:=Am [Fs] (fun d=>(Pr d.1).val) fun r=>([rv g_1 r],[])
def Lg:Fns:=[(56,.plain,Cb),(85,.plain,Aj7),(124,.plain,Ae2),(16,.plain,Akf),(125,.plain,Ki),(126,.plain,Tk)]
theorem We:CfgOk Tryz.prog (C9 Lg):=E5 J2 Hu (show Il Tryz.prog Lg from⟨Bx,Asf,Aok,Asl,Mu,U9,trivial⟩)
def Adw:Sk:=⟨[(1,.box 1 0),(4,.v false [(.int .i64,.nil)])],[(1,[(.sl 22 [.sl 5 [.int .u8]],.ro),(.sl 5 [.int .u8],.ro),(.sl 5 [.int .u8],.ro),(.int .i64,.nil),(.int .i64,.nil),(.sl 40 B5,.ro),(.sl 147 h_2,.ro)])],[]⟩
def Adx:List (Ex×Sk):=[(.ret,⟨[(2,.v false [(.bool,.nil)])],[],[]⟩),((.exit 2),⟨[],[],[]⟩)]
def Ady:Sk:=⟨[(1,.box 1 0),(3,.v false [(.int .i64,.nil)])],[(1,[(.sl 22 [.sl 5 [.int .u8]],.ro),(.sl 5 [.int .u8],.ro),(.sl 5 [.int .u8],.ro),(.int .i64,.nil),(.int .i64,.nil),(.sl 40 B5,.ro),(.sl 147 h_2,.ro)])],[]⟩
def Adz:List (Ex×Sk):=[(.ret,⟨[(2,.v false [(.bool,.nil)])],[],[]⟩),((.exit 0),⟨[(1,.box 1 0)],[(1,[(.sl 22 [.sl 5 [.int .u8]],.ro),(.sl 5 [.int .u8],.ro),(.sl 5 [.int .u8],.ro),(.int .i64,.nil),(.int .i64,.nil),(.sl 40 B5,.ro),(.sl 147 h_2,.ro)])],[]⟩)]
def Lh:E0:=fun i st=>cond (Nat.beq i 4) (lam Ady 5000000 Adz Hg st) <| cond (Nat.beq i 9) (lam Adw 10000000 Adx Hh st) <| .fail
theorem Asm (cx:Cx) (hp:cx.pin.length≤0):De Tryz.prog cx Tryz.f67.ntmps Lh (Ax Tryz.f67 0):=D6 We hp (Cv (by kernel_rfl:Be (Ax Tryz.f67 0)=[]) trivial) (by kernel_rfl) (fun d=>(by kernel_rfl:bod (C9 Lg) 0 Tryz.f67.ntmps Lh (Ax Tryz.f67 0) Ady 5000000 Adz d=Hg d))
theorem Asn (cx:Cx) (hp:cx.pin.length≤0):De Tryz.prog cx Tryz.f67.ntmps Lh (Ax Tryz.f67 1):=D6 We hp (Cv (by kernel_rfl:Be (Ax Tryz.f67 1)=[]) trivial) (by kernel_rfl) (fun d=>(by kernel_rfl:bod (C9 Lg) 0 Tryz.f67.ntmps Lh (Ax Tryz.f67 1) Adw 10000000 Adx d=Hh d))
theorem Uc:Fn Tryz.prog 67 .plain Pq:=K2 We Tryz.func67 (by kernel_rfl) (by kernel_rfl) (fun cx b hp hb=>Cv (by kernel_rfl:Be (Tryz.f67.body.getD .skip)=[Ax Tryz.f67 0,Ax Tryz.f67 1]) ⟨Asm cx hp,Asn cx hp,trivial⟩ b hb) (fun d=>(by kernel_rfl:F6 (C9 Lg) 0 Lh Tryz.f67 .plain (mkA [Fs] d)=(Pr d.1).run fun r=>some ([rv g_1 r],[])))
def Ai6:Ao:=Am [g_4,g_0,g_3] (fun d=>(Ud d.1 d.2.1 d.2.2.1).val) fun r=>([rv Fs r],[])
theorem Avc:Fn Tryz.prog 164 .plain Ai6:=Ca [(68,.plain,Aqc),(69,.plain,U6),(70,.plain,U7),(67,.plain,Pq)] ⟨Axb,Aa9,Aba,Uc,trivial⟩ ⟨[(0,.v false [(.sl 22 [.sl 5 [.int .u8]],.ro)]),(6,.box 6 0),(9,.box 9 0),(10,.v false [(.int .i64,.nil)])],[(6,[(.sl 22 [.sl 5 [.int .u8]],(.own 5000000)),(.sl 5 [.int .u8],(.own 5000001)),(.sl 5 [.int .u8],(.own 5000002)),(.int .i64,.nil),(.int .i64,.nil),(.sl 40 B5,(.own 5000003)),(.sl 147 h_2,(.own 5000004))]),(9,[(.sl 22 [.sl 5 [.int .u8]],(.own 5000005)),(.sl 5 [.int .u8],(.own 5000006)),(.sl 5 [.int .u8],(.own 5000007)),(.int .i64,.nil),(.int .i64,.nil),(.sl 40 B5,(.own 5000008)),(.sl 147 h_2,(.own 5000009))])],[5000000,5000001,5000002,5000003,5000004,5000005,5000006,5000007,5000008,5000009]⟩ 5000000 [((.exit 0),⟨[(6,.box 6 0),(9,.box 9 0)],[(6,[(.sl 22 [.sl 5 [.int .u8]],(.own 5000000)),(.sl 5 [.int .u8],(.own 5000001)),(.sl 5 [.int .u8],(.own 5000002)),(.int .i64,.nil),(.int .i64,.nil),(.sl 40 B5,(.own 5000003)),(.sl 147 h_2,(.own 5000004))]),(9,[(.sl 22 [.sl 5 [.int .u8]],(.own 5000005)),(.sl 5 [.int .u8],(.own 5000006)),(.sl 5 [.int .u8],(.own 5000007)),(.int .i64,.nil),(.int .i64,.nil),(.sl 40 B5,(.own 5000008)),(.sl 147 h_2,(.own 5000009))])],[5000000,5000001,5000002,5000003,5000004,5000005,5000006,5000007,5000008,5000009]⟩)] 4 Gl Tryz.func164 0
def Ai7:Ao:=Am [g_2] (fun d=>(Ue d.1).val) fun r=>([rv Nh r.1],[rv g_2 r.2])
theorem Avd:Fn Tryz.prog 146 (.box [3] true true) Ai7:=mkF [(94,(.box [3] true true),Dx),(43,(.box [3] true true),Cc)] ⟨Du,B7,trivial⟩ Tryz.func146 1
def Aso:Ao:=Am [g_3] (fun d=>(Afg d.1).val) fun r=>([rv g_1 r],[])
theorem A4l:Fn Tryz.prog 207 .plain Aso:=mkF [(56,.plain,Cb)] ⟨Bx,trivial⟩ Tryz.func207 0
def Asp:Ao:=Am [g_3,g_3] (fun d=>(Afh d.1 d.2.1).val) fun r=>([rv g_1 r],[])
theorem A4m:Fn Tryz.prog 208 .plain Asp:=mkF [] trivial Tryz.func208 0
def Abf:Ao:=Am [Nh] (fun d=>(Abg d.1).val) fun r=>([rv g_1 r],[])
theorem Aki:Fn Tryz.prog 177 .plain Abf:=mkF [(207,.plain,Aso),(56,.plain,Cb),(208,.plain,Asp)] ⟨A4l,Bx,A4m,trivial⟩ Tryz.func177 0
def Abh:Ao:=Am [g_0,g_0] (fun d=>(Sf d.1 d.2.1).val) fun r=>([rv g_0 r],[])
theorem Akj:Fn Tryz.prog 234 .plain Abh:=mkF [(141,.plain,Wc)] ⟨Zr,trivial⟩ Tryz.func234 0
def Ai8:Ao:=Am [g_0] (fun d=>(Uf d.1).val) fun r=>([rv g_0 r],[])
theorem Ave:Fn Tryz.prog 209 .plain Ai8:=mkF [(126,.plain,Tk),(234,.plain,Abh),(128,.plain,Mt)] ⟨U9,Akj,Nj,trivial⟩ Tryz.func209 0
def Ai9:Ao:=Am [g_3,g_0,g_0,g_3,g_0] (fun d=>(Ug d.1 d.2.1 d.2.2.1 d.2.2.2.1 d.2.2.2.2.1).val) fun r=>([rv g_0 r],[])
theorem Avf:Fn Tryz.prog 210 .plain Ai9:=mkF [(56,.plain,Cb),(140,.plain,Oq)] ⟨Bx,O7,trivial⟩ Tryz.func210 0
def Avg:Ao:=Am [g_0,g_0] (fun d=>(Avh d.1 d.2.1).val) fun r=>([rv g_0 r],[])
theorem A0s:Fn Tryz.prog 86 .plain Avg:=mkF [(141,.plain,Wc)] ⟨Zr,trivial⟩ Tryz.func86 0
def Axe:Ao:=Am [g_0,g_3,g_0,g_0,g_3,g_0] (fun d=>(Akk d.1 d.2.1 d.2.2.1 d.2.2.2.1 d.2.2.2.2.1 d.2.2.2.2.2.1).val) fun r=>([rv g_0 r],[])
theorem A7j:Fn Tryz.prog 178 .plain Axe:=mkF [(209,.plain,Ai8),(210,.plain,Ai9),(86,.plain,Avg)] ⟨Ave,Avf,A0s,trivial⟩ Tryz.func178 0
def Asq:Ao:=Am [Nh] (fun d=>(Afi d.1).val) fun r=>([rv Nh r],[])
theorem A4n:Fn Tryz.prog 179 .plain Asq:=mkF [] trivial Tryz.func179 0
def Akl:Ao:=Am [g_0,g_3,Nh] (fun d=>(Wg d.1 d.2.1 d.2.2.1).val) fun r=>([rv Nh r.1,rv g_1 r.2],[])
theorem Aze:Fn Tryz.prog 145 .plain Akl:=mkF [(177,.plain,Abf),(178,.plain,Axe),(179,.plain,Asq)] ⟨Aki,A7j,A4n,trivial⟩ Tryz.func145 0
def Dr:Ao:=Am [g_2,g_6] (fun d=>(Zx d.1 d.2.1).val) fun r=>([rv g_3 r.1],[rv g_2 r.2])
theorem Dl:Fn Tryz.prog 52 (.box [3] true true) Dr:=mkF [(43,(.box [3] true true),Cc)] ⟨B7,trivial⟩ Tryz.func52 1
def Aoq:Ao:=Am [g_0,g_0,g_0] (fun d=>(Abi d.1 d.2.1 d.2.2.1).val) fun r=>([rv g_0 r],[])
theorem A0t:Fn Tryz.prog 212 .plain Aoq:=mkF [(126,.plain,Tk),(234,.plain,Abh)] ⟨U9,Akj,trivial⟩ Tryz.func212 0
def Akm:Ao:=Am [g_0] (fun d=>(Wh d.1).val) fun r=>([rv g_0 r],[])
theorem Azf:Fn Tryz.prog 211 .plain Akm:=mkF [(128,.plain,Mt)] ⟨Nj,trivial⟩ Tryz.func211 0
def Axf:Ao:=Am [g_0,g_3] (fun d=>(Akn d.1 d.2.1).val) fun r=>([rv g_0 r],[])
theorem A7k:Fn Tryz.prog 213 .plain Axf:=Ca [(56,.plain,Cb),(128,.plain,Mt)] ⟨Bx,Nj,trivial⟩ ⟨[(1,.v false [(.int .i64,.nil)]),(5,.v false [(.sl 5 [.int .u8],(.own 6000000))]),(6,.v false [(.int .i64,.nil)])],[],[6000000]⟩ 6000000 [((.exit 0),⟨[(5,.v false [(.sl 5 [.int .u8],(.own 6000000))])],[],[6000000]⟩)] 5 Kq Tryz.func213 0
def Ako:Ao:=Am [g_0,g_0,g_0,g_3] (fun d=>(Wi d.1 d.2.1 d.2.2.1 d.2.2.2.1).val) fun r=>([rv g_0 r],[])
theorem Azg:Fn Tryz.prog 181 .plain Ako:=mkF [(212,.plain,Aoq),(211,.plain,Akm),(213,.plain,Axf)] ⟨A0t,Azf,A7k,trivial⟩ Tryz.func181 0
def Afj:Ao:=Am [] (fun d=>(Afk).val) fun r=>([rv Ky r],[])
theorem Aor:Fn Tryz.prog 216 .plain Afj:=Ca [] trivial ⟨[(0,.box 0 0),(1,.box 1 0),(2,.v false [(.int .i64,.nil)])],[(0,[(.int .i64,.nil),(.sl 3 [.int .i64],(.own 4000000))]),(1,[(.int .i64,.nil),(.sl 3 [.int .i64],(.own 4000001))])],[4000000,4000001]⟩ 4000000 [((.exit 0),⟨[(0,.box 0 0),(1,.box 1 0)],[(0,[(.int .i64,.nil),(.sl 3 [.int .i64],(.own 4000000))]),(1,[(.int .i64,.nil),(.sl 3 [.int .i64],(.own 4000001))])],[4000000,4000001]⟩)] 3 Ja Tryz.func216 0
def Zy:Ao:=Am [g_3,g_0] (fun d=>(Akp d.1 d.2.1).val) fun r=>([rv Kx r],[])
theorem Afl:Fn Tryz.prog 184 .plain Zy:=mkF [(56,.plain,Cb),(216,.plain,Afj)] ⟨Bx,Aor,trivial⟩ Tryz.func184 0
def Abj:Ao:=Am [g_3,g_0,g_0] (fun d=>(Abk d.1 d.2.1 d.2.2.1).val) fun r=>([rv J1 r],[])
theorem Akq:Fn Tryz.prog 180 .plain Abj:=mkF [(56,.plain,Cb),(184,.plain,Zy)] ⟨Bx,Afl,trivial⟩ Tryz.func180 0
def Wj:Ao:=Am [I3] (fun d=>(Akr d.1).val) fun r=>([rv Ht r],[])
theorem Aja:Fn Tryz.prog 182 .plain Wj:=mkF [] trivial Tryz.func182 0
def Aos:Ao:=Am [g_0,g_3,I3,Nh] (fun d=>(Abl d.1 d.2.1 d.2.2.1 d.2.2.2.1).val) fun r=>([rv H1 r],[])
theorem A0u:Fn Tryz.prog 147 .plain Aos:=mkF [(126,.plain,Tk),(56,.plain,Cb),(138,.plain,Im),(177,.plain,Abf),(181,.plain,Ako),(180,.plain,Abj),(182,.plain,Wj)] ⟨U9,Bx,I5,Aki,Azg,Akq,Aja,trivial⟩ Tryz.func147 0
def F7:Ao:=Am [g_2,g_3] (fun d=>(Afm d.1 d.2.1).val) fun r=>([rv g_1 r.1],[rv g_2 r.2])
theorem F8:Fn Tryz.prog 42 (.box [3] true true) F7:=mkF [(43,(.box [3] true true),Cc)] ⟨B7,trivial⟩ Tryz.func42 1
def Asr:Ao:=Am [g_2,g_3] (fun d=>(Afn d.1 d.2.1).val) fun r=>([rv g_6 r.1],[rv g_2 r.2])
theorem A4o:Fn Tryz.prog 215 (.box [3] true true) Asr:=Ca [(52,(.box [3] true true),Dr),(43,(.box [3] true true),Cc),(42,(.box [3] true true),F7)] ⟨Dl,B7,F8,trivial⟩ ⟨[(0,.box 0 0),(5,.v false [(.sl 3 [.int .i64],(.own 5000000))]),(6,.v false [(.int .i64,.nil)]),(7,.v false [(.int .i64,.nil)])],[(0,[(.sl 5 [.int .u8],(.pin 0)),(.int .i64,.nil),(.int .i64,.nil)])],[5000000]⟩ 5000000 [((.exit 0),⟨[(0,.box 0 0),(5,.v false [(.sl 3 [.int .i64],(.own 5000000))])],[(0,[(.sl 5 [.int .u8],(.pin 0)),(.int .i64,.nil),(.int .i64,.nil)])],[5000000]⟩)] 4 Ps Tryz.func215 1
def Afo:Ao:=Am [Ky] (fun d=>(Ass d.1).val) fun r=>([rv Ky r],[])
theorem Aot:Fn Tryz.prog 194 .plain Afo:=mkF [] trivial Tryz.func194 0
def Aou:Ao:=Am [g_3] (fun d=>(Abm d.1).val) fun r=>([rv g_3 r],[])
theorem A0v:Fn Tryz.prog 245 .plain Aou:=mkF [] trivial Tryz.func245 0
def Ast:Ao:=Am [Ky,g_3] (fun d=>(Afp d.1 d.2.1).val) fun r=>([rv g_1 r],[])
theorem A4p:Fn Tryz.prog 239 .plain Ast:=mkF [(193,.plain,Akb),(56,.plain,Cb),(245,.plain,Aou),(220,.plain,Aj9)] ⟨Ash,Bx,A0v,Asg,trivial⟩ Tryz.func239 0
def Asu:Ao:=Am [Ky,g_3] (fun d=>(Afq d.1 d.2.1).val) fun r=>([rv Ky r.1,rv g_1 r.2],[])
theorem A4q:Fn Tryz.prog 235 .plain Asu:=Ca [(194,.plain,Afo),(239,.plain,Ast)] ⟨Aot,A4p,trivial⟩ ⟨[(1,.v false [(.int .i64,.nil)]),(2,.box 2 0),(4,.box 4 0),(6,.box 6 0),(7,.v false [(.int .i64,.nil)]),(8,.v false [(.int .i64,.nil)])],[(2,[(.int .i64,.nil),(.sl 3 [.int .i64],.ro)]),(4,[(.int .i64,.nil),(.sl 3 [.int .i64],(.own 7000000))]),(6,[(.int .i64,.nil),(.sl 3 [.int .i64],(.own 7000001))])],[7000000,7000001]⟩ 7000000 [((.exit 0),⟨[(1,.v false [(.int .i64,.nil)]),(2,.box 2 0),(4,.box 4 0),(6,.box 6 0)],[(2,[(.int .i64,.nil),(.sl 3 [.int .i64],.ro)]),(4,[(.int .i64,.nil),(.sl 3 [.int .i64],(.own 7000000))]),(6,[(.int .i64,.nil),(.sl 3 [.int .i64],(.own 7000001))])],[7000000,7000001]⟩)] 6 Jb Tryz.func235 0
def Axg:Ao:=Am [g_6] (fun d=>(Aks d.1).val) fun r=>([rv Ky r],[])
theorem A7l:Fn Tryz.prog 214 .plain Axg:=Ca [(216,.plain,Afj),(235,.plain,Asu)] ⟨Aor,A4q,trivial⟩ ⟨[(0,.v false [(.sl 3 [.int .i64],.ro)]),(2,.box 2 0),(3,.box 3 0),(4,.v false [(.int .i64,.nil)])],[(2,[(.int .i64,.nil),(.sl 3 [.int .i64],(.own 4000000))]),(3,[(.int .i64,.nil),(.sl 3 [.int .i64],(.own 4000001))])],[4000000,4000001]⟩ 4000000 [((.exit 0),⟨[(2,.box 2 0),(3,.box 3 0)],[(2,[(.int .i64,.nil),(.sl 3 [.int .i64],(.own 4000000))]),(3,[(.int .i64,.nil),(.sl 3 [.int .i64],(.own 4000001))])],[4000000,4000001]⟩)] 3 Si Tryz.func214 0
def Va:Ao:=Am [g_2] (fun d=>(Afr d.1).val) fun r=>([rv Ky r.1],[rv g_2 r.2])
theorem Abn:Fn Tryz.prog 183 (.box [3] true true) Va:=mkF [(215,(.box [3] true true),Asr),(214,.plain,Axg)] ⟨A4o,A7l,trivial⟩ Tryz.func183 1
def Abo:Ao:=Am [g_2,g_3] (fun d=>(Abp d.1 d.2.1).val) fun r=>([rv J1 r.1],[rv g_2 r.2])
theorem Akt:Fn Tryz.prog 148 (.box [3] true true) Abo:=mkF [(94,(.box [3] true true),Dx),(180,.plain,Abj),(52,(.box [3] true true),Dr),(42,(.box [3] true true),F7),(183,(.box [3] true true),Va),(128,.plain,Mt),(184,.plain,Zy)] ⟨Du,Akq,Dl,F8,Abn,Nj,Afl,trivial⟩ Tryz.func148 1
def Abq:Ao:=Am [Bgk] (fun d=>(Abr d.1).val) fun r=>([rv Bgk r],[])
theorem Aku:Fn Tryz.prog 161 .plain Abq:=mkF [] trivial Tryz.func161 0
def Sj:Ao:=Am [Ht] (fun d=>(Abs d.1).val) fun r=>([rv Ht r],[])
theorem Wk:Fn Tryz.prog 110 .plain Sj:=Ca [(161,.plain,Abq)] ⟨Aku,trivial⟩ ⟨[(1,.box 1 0),(2,.box 2 0),(3,.box 3 0),(4,.v false [(.int .i64,.nil)])],[(1,[(.int .i64,.nil),(.int .i64,.nil),(.sl 169 h_4,.ro)]),(2,[(.int .i64,.nil),(.int .i64,.nil),(.sl 169 h_4,(.own 4000000))]),(3,[(.int .i64,.nil),(.int .i64,.nil),(.sl 169 h_4,(.own 4000001))])],[4000000,4000001]⟩ 4000000 [((.exit 0),⟨[(2,.box 2 0),(3,.box 3 0)],[(2,[(.int .i64,.nil),(.int .i64,.nil),(.sl 169 h_4,(.own 4000000))]),(3,[(.int .i64,.nil),(.int .i64,.nil),(.sl 169 h_4,(.own 4000001))])],[4000000,4000001]⟩)] 3 H5 Tryz.func110 0
def Akv:Ao:=Am [Ht,g_3] (fun d=>(Wl d.1 d.2.1).val) fun r=>([rv Ht r],[])
theorem Azh:Fn Tryz.prog 217 .plain Akv:=Ca [(108,.plain,Sd),(56,.plain,Cb),(110,.plain,Sj),(161,.plain,Abq)] ⟨Wd,Bx,Wk,Aku,trivial⟩ ⟨[(1,.v false [(.int .i64,.nil)]),(2,.box 2 0),(4,.box 4 0),(5,.box 5 0),(6,.v false [(.int .i64,.nil)])],[(2,[(.int .i64,.nil),(.int .i64,.nil),(.sl 169 h_4,.ro)]),(4,[(.int .i64,.nil),(.int .i64,.nil),(.sl 169 h_4,(.own 6000000))]),(5,[(.int .i64,.nil),(.int .i64,.nil),(.sl 169 h_4,(.own 6000001))])],[6000000,6000001]⟩ 6000000 [((.exit 0),⟨[(4,.box 4 0),(5,.box 5 0)],[(4,[(.int .i64,.nil),(.int .i64,.nil),(.sl 169 h_4,(.own 6000000))]),(5,[(.int .i64,.nil),(.int .i64,.nil),(.sl 169 h_4,(.own 6000001))])],[6000000,6000001]⟩)] 5 Hi Tryz.func217 0
def Axh:Ao:=Am [Ht,g_3,I3,g_0] (fun d=>(Akw d.1 d.2.1 d.2.2.1 d.2.2.2.1).val) fun r=>([rv Ht r.1,rv g_1 r.2],[])
theorem A7m:Fn Tryz.prog 185 .plain Axh:=Ca [(108,.plain,Sd),(56,.plain,Cb),(138,.plain,Im),(110,.plain,Sj),(217,.plain,Akv)] ⟨Wd,Bx,I5,Wk,Azh,trivial⟩ ⟨[(1,.v false [(.int .i64,.nil)]),(3,.v false [(.sl 5 [.int .u8],.ro)]),(4,.box 4 0),(6,.box 6 0),(8,.box 8 0),(10,.box 10 0),(11,.v false [(.int .i64,.nil)])],[(4,[(.int .i64,.nil),(.int .i64,.nil),(.sl 169 h_4,.ro)]),(6,[(.int .i64,.nil),(.int .i64,.nil)]),(8,[(.int .i64,.nil),(.int .i64,.nil),(.sl 169 h_4,(.own 6000000))]),(10,[(.int .i64,.nil),(.int .i64,.nil),(.sl 169 h_4,(.own 6000001))])],[6000000,6000001]⟩ 6000000 [(.ret,⟨[(8,.box 8 0),(9,.v false [(.bool,.nil)])],[(8,[(.int .i64,.nil),(.int .i64,.nil),(.sl 169 h_4,(.own 6000000))])],[6000000]⟩),((.exit 0),⟨[(1,.v false [(.int .i64,.nil)]),(3,.v false [(.sl 5 [.int .u8],.ro)]),(4,.box 4 0),(6,.box 6 0),(8,.box 8 0),(10,.box 10 0)],[(4,[(.int .i64,.nil),(.int .i64,.nil),(.sl 169 h_4,.ro)]),(6,[(.int .i64,.nil),(.int .i64,.nil)]),(8,[(.int .i64,.nil),(.int .i64,.nil),(.sl 169 h_4,(.own 6000000))]),(10,[(.int .i64,.nil),(.int .i64,.nil),(.sl 169 h_4,(.own 6000001))])],[6000000,6000001]⟩)] 5 Kr Tryz.func185 0
def Abt:Ao:=Am [g_2] (fun d=>(Abu d.1).val) fun r=>([rv Ht r.1],[rv g_2 r.2])
theorem Akx:Fn Tryz.prog 149 (.box [3] true true) Abt:=Ca [(43,(.box [3] true true),Cc),(105,.plain,Rh),(182,.plain,Wj),(94,(.box [3] true true),Dx),(185,.plain,Axh)] ⟨B7,Th,Aja,Du,A7m,trivial⟩ ⟨[(0,.box 0 0),(2,.box 2 0),(3,.box 3 0),(4,.v false [(.int .i64,.nil)]),(5,.v false [(.int .i64,.nil)])],[(0,[(.sl 5 [.int .u8],(.pin 0)),(.int .i64,.nil),(.int .i64,.nil)]),(2,[(.int .i64,.nil),(.int .i64,.nil),(.sl 169 h_4,(.own 5000000))]),(3,[(.int .i64,.nil),(.int .i64,.nil),(.sl 169 h_4,(.own 5000001))])],[5000000,5000001]⟩ 5000000 [((.exit 0),⟨[(0,.box 0 0),(2,.box 2 0),(3,.box 3 0)],[(0,[(.sl 5 [.int .u8],(.pin 0)),(.int .i64,.nil),(.int .i64,.nil)]),(2,[(.int .i64,.nil),(.int .i64,.nil),(.sl 169 h_4,(.own 5000000))]),(3,[(.int .i64,.nil),(.int .i64,.nil),(.sl 169 h_4,(.own 5000001))])],[5000000,5000001]⟩)] 4 Uh Tryz.func149 1
def Nn:Ao:=Am [g_2] (fun d=>(Abv d.1).val) fun r=>([rv H1 r.1],[rv g_2 r.2])
theorem Pt:Fn Tryz.prog 93 (.box [3] true false) Nn:=mkF [(94,(.box [3] true true),Dx),(43,(.box [3] true true),Cc),(146,(.box [3] true true),Ai7),(145,.plain,Akl),(52,(.box [3] true true),Dr),(105,.plain,Rh),(147,.plain,Aos),(42,(.box [3] true true),F7),(148,(.box [3] true true),Abo),(149,(.box [3] true true),Abt)] ⟨Du,B7,Avd,Aze,Dl,Th,A0u,F8,Akt,Akx,trivial⟩ Tryz.func93 1
def Afs:Ao:=Am [Kx] (fun d=>(Aft d.1).val) fun r=>([rv Kx r],[])
theorem Aov:Fn Tryz.prog 159 .plain Afs:=mkF [(194,.plain,Afo)] ⟨Aot,trivial⟩ Tryz.func159 0
def Axi:Ao:=Am [Kx,g_1] (fun d=>(Aky d.1 d.2.1).val) fun r=>([rv Kx r],[])
theorem A7n:Fn Tryz.prog 160 .plain Axi:=mkF [(159,.plain,Afs)] ⟨Aov,trivial⟩ Tryz.func160 0
def Aow:Ao:=Am [J1] (fun d=>(Abw d.1).val) fun r=>([rv J1 r],[])
theorem A0w:Fn Tryz.prog 109 .plain Aow:=mkF [(159,.plain,Afs),(160,.plain,Axi)] ⟨Aov,A7n,trivial⟩ Tryz.func109 0
def Sl:Ao:=Am [H1] (fun d=>(Abx d.1).val) fun r=>([rv H1 r],[])
theorem Wm:Fn Tryz.prog 51 .plain Sl:=mkF [(109,.plain,Aow),(110,.plain,Sj)] ⟨A0w,Wk,trivial⟩ Tryz.func51 0
def Aby:Ao:=Am [g_9] (fun d=>(Abz d.1).val) fun r=>([rv g_9 r],[])
theorem Akz:Fn Tryz.prog 47 .plain Aby:=Ca [(51,.plain,Sl)] ⟨Wm,trivial⟩ ⟨[(1,.box 1 0),(2,.box 2 0),(3,.box 3 0),(4,.v false [(.int .i64,.nil)])],[(1,[(.int .i64,.nil),(.sl 40 B5,.ro)]),(2,[(.int .i64,.nil),(.sl 40 B5,(.own 4000000))]),(3,[(.int .i64,.nil),(.sl 40 B5,(.own 4000001))])],[4000000,4000001]⟩ 4000000 [((.exit 0),⟨[(2,.box 2 0),(3,.box 3 0)],[(2,[(.int .i64,.nil),(.sl 40 B5,(.own 4000000))]),(3,[(.int .i64,.nil),(.sl 40 B5,(.own 4000001))])],[4000000,4000001]⟩)] 3 H6 Tryz.func47 0
def Ab0:Ao:=Am [g_9,H1] (fun d=>(Ab1 d.1 d.2.1).val) fun r=>([rv g_9 r.1,rv g_3 r.2],[])
theorem Ak0:Fn Tryz.prog 9 .plain Ab0:=mkF [(47,.plain,Aby),(16,.plain,Akf),(48,.plain,U8),(49,.plain,Afe),(50,.plain,Aqe),(51,.plain,Sl)] ⟨Akz,Asl,Abe,Aop,Axd,Wm,trivial⟩ Tryz.func9 0
def Ri:Ao:=Am [H1] (fun d=>(Afu d.1).val) fun r=>([rv H1 r],[])
theorem Tl:Fn Tryz.prog 55 .plain Ri:=mkF [(48,.plain,U8),(51,.plain,Sl)] ⟨Abe,Wm,trivial⟩ Tryz.func55 0
def Ab2:Ao:=Am [g_2] (fun d=>(Ab3 d.1).val) fun r=>([rv g_9 r.1],[rv g_2 r.2])
theorem Ak1:Fn Tryz.prog 92 (.box [3] true true) Ab2:=Ca [(43,(.box [3] true true),Cc),(70,.plain,U7),(93,(.box [3] true false),Nn),(9,.plain,Ab0),(42,(.box [3] true true),F7),(55,.plain,Ri)] ⟨B7,Aba,Pt,Ak0,F8,Tl,trivial⟩ ⟨[(0,.box 0 0),(2,.box 2 0),(3,.box 3 0),(4,.v false [(.int .i64,.nil)])],[(0,[(.sl 5 [.int .u8],(.pin 0)),(.int .i64,.nil),(.int .i64,.nil)]),(2,[(.int .i64,.nil),(.sl 40 B5,(.own 4000000))]),(3,[(.int .i64,.nil),(.sl 40 B5,(.own 4000001))])],[4000000,4000001]⟩ 4000000 [((.exit 0),⟨[(0,.box 0 0),(2,.box 2 0),(3,.box 3 0)],[(0,[(.sl 5 [.int .u8],(.pin 0)),(.int .i64,.nil),(.int .i64,.nil)]),(2,[(.int .i64,.nil),(.sl 40 B5,(.own 4000000))]),(3,[(.int .i64,.nil),(.sl 40 B5,(.own 4000001))])],[4000000,4000001]⟩)] 3 Oe Tryz.func92 1
def Zz:Ao:=Am [Ng,I3] (fun d=>(Ak2 d.1 d.2.1).val) fun r=>([rv g_3 r],[])
theorem Afv:Fn Tryz.prog 222 .plain Zz:=Ca [] trivial ⟨[(0,.v false [(.sl 147 h_2,.ro)]),(3,.box 3 0),(5,.v false [(.int .i64,.nil)])],[(3,[(.int .i64,.nil),(.int .i64,.nil)])],[]⟩ 3000000 [(.ret,⟨[(4,.v false [(.int .i64,.nil)])],[],[]⟩),((.exit 0),⟨[],[],[]⟩)] 2 No Tryz.func222 0
def A0x:Ao:=Am [Ng,I3,g_3] (fun d=>(Aqj d.1 d.2.1 d.2.2.1).val) fun r=>([rv Ng r],[])
theorem Baa:Fn Tryz.prog 196 .plain A0x:=mkF [(125,.plain,Ki),(138,.plain,Im),(56,.plain,Cb),(222,.plain,Zz)] ⟨Mu,I5,Bx,Afv,trivial⟩ Tryz.func196 0
def Aox:Ao:=Am [Ng,I3] (fun d=>(Ab4 d.1 d.2.1).val) fun r=>([rv g_3 r],[])
theorem A0y:Fn Tryz.prog 223 .plain Aox:=mkF [(222,.plain,Zz),(125,.plain,Ki)] ⟨Afv,Mu,trivial⟩ Tryz.func223 0
def Axj:Ao:=Am [Ng,I3,g_3] (fun d=>(Ak3 d.1 d.2.1 d.2.2.1).val) fun r=>([rv Ng r.1,rv g_1 r.2],[])
theorem A7o:Fn Tryz.prog 197 .plain Axj:=mkF [(222,.plain,Zz),(125,.plain,Ki),(223,.plain,Aox),(56,.plain,Cb)] ⟨Afv,Mu,A0y,Bx,trivial⟩ Tryz.func197 0
def Ab5:Ao:=Am [g_2,g_3] (fun d=>(Ab6 d.1 d.2.1).val) fun r=>([rv Ng r.1],[rv g_2 r.2])
theorem Ak4:Fn Tryz.prog 166 (.box [3] true true) Ab5:=Ca [(43,(.box [3] true true),Cc),(105,.plain,Rh),(52,(.box [3] true true),Dr),(196,.plain,A0x),(197,.plain,Axj)] ⟨B7,Th,Dl,Baa,A7o,trivial⟩ ⟨[(0,.box 0 0),(5,.v false [(.sl 147 h_2,(.own 4000000))]),(6,.v false [(.int .i64,.nil)])],[(0,[(.sl 5 [.int .u8],(.pin 0)),(.int .i64,.nil),(.int .i64,.nil)])],[4000000]⟩ 4000000 [((.exit 0),⟨[(0,.box 0 0),(5,.v false [(.sl 147 h_2,(.own 4000000))])],[(0,[(.sl 5 [.int .u8],(.pin 0)),(.int .i64,.nil),(.int .i64,.nil)])],[4000000]⟩)] 3 Of Tryz.func166 1
def Aoy:Ao:=Am [g_2] (fun d=>(Ab7 d.1).val) fun r=>([rv Fs r.1],[rv g_2 r.2])
theorem A0z:Fn Tryz.prog 115 (.box [3] true true) Aoy:=Ca [(165,(.box [3] true true),Aoj),(94,(.box [3] true true),Dx),(43,(.box [3] true true),Cc),(164,.plain,Ai6),(92,(.box [3] true true),Ab2),(9,.plain,Ab0),(166,(.box [3] true true),Ab5)] ⟨A0l,Du,B7,Avc,Ak1,Ak0,Ak4,trivial⟩ ⟨[(0,.box 0 0),(2,.box 2 0),(3,.box 3 0),(4,.box 4 0),(5,.v false [(.int .i64,.nil)])],[(0,[(.sl 5 [.int .u8],(.pin 0)),(.int .i64,.nil),(.int .i64,.nil)]),(2,[(.sl 22 [.sl 5 [.int .u8]],(.own 5000000)),(.sl 5 [.int .u8],(.own 5000001)),(.sl 5 [.int .u8],(.own 5000002)),(.int .i64,.nil),(.int .i64,.nil),(.sl 40 B5,(.own 5000003)),(.sl 147 h_2,(.own 5000004))]),(3,[(.sl 22 [.sl 5 [.int .u8]],(.own 5000005)),(.sl 5 [.int .u8],(.own 5000006)),(.sl 5 [.int .u8],(.own 5000007)),(.int .i64,.nil),(.int .i64,.nil),(.sl 40 B5,(.own 5000008)),(.sl 147 h_2,(.own 5000009))]),(4,[(.int .i64,.nil),(.sl 40 B5,(.own 5000010))])],[5000000,5000001,5000002,5000003,5000004,5000005,5000006,5000007,5000008,5000009,5000010]⟩ 5000000 [((.exit 0),⟨[(0,.box 0 0),(2,.box 2 0),(3,.box 3 0)],[(0,[(.sl 5 [.int .u8],(.pin 0)),(.int .i64,.nil),(.int .i64,.nil)]),(2,[(.sl 22 [.sl 5 [.int .u8]],(.own 5000000)),(.sl 5 [.int .u8],(.own 5000001)),(.sl 5 [.int .u8],(.own 5000002)),(.int .i64,.nil),(.int .i64,.nil),(.sl 40 B5,(.own 5000003)),(.sl 147 h_2,(.own 5000004))]),(3,[(.sl 22 [.sl 5 [.int .u8]],(.own 5000005)),(.sl 5 [.int .u8],(.own 5000006)),(.sl 5 [.int .u8],(.own 5000007)),(.int .i64,.nil),(.int .i64,.nil),(.sl 40 B5,(.own 5000008)),(.sl 147 h_2,(.own 5000009))])],[5000000,5000001,5000002,5000003,5000004,5000005,5000006,5000007,5000008,5000009]⟩)] 4 Og Tryz.func115 1
def Asv:Ao:=Am [g_2,g_4,g_4] (fun d=>(Afw d.1 d.2.1 d.2.2.1).val) fun r=>([rv g_4 r.1],[rv g_2 r.2])
theorem A4r:Fn Tryz.prog 116 (.box [3] true false) Asv:=mkF [(42,(.box [3] true true),F7)] ⟨F8,trivial⟩ Tryz.func116 1
def Asw:Ao:=Am [g_2] (fun d=>(Afx d.1).val) fun r=>([rv g_8 r.1],[rv g_2 r.2])
theorem A4s:Fn Tryz.prog 117 (.box [3] true true) Asw:=mkF [(94,(.box [3] true true),Dx),(69,.plain,U6),(42,(.box [3] true true),F7),(52,(.box [3] true true),Dr)] ⟨Du,Aa9,F8,Dl,trivial⟩ Tryz.func117 1
def A00:Ao:=Am [g_2] (fun d=>(Aqk d.1).val) fun r=>([rv Kx r.1],[rv g_2 r.2])
theorem Bab:Fn Tryz.prog 186 (.box [3] true true) A00:=mkF [(52,(.box [3] true true),Dr),(94,(.box [3] true true),Dx),(184,.plain,Zy),(42,(.box [3] true true),F7),(183,(.box [3] true true),Va)] ⟨Dl,Du,Afl,F8,Abn,trivial⟩ Tryz.func186 1
def Axk:Ao:=Am [g_2] (fun d=>(Ak5 d.1).val) fun r=>([rv Ky r.1],[rv g_2 r.2])
theorem A7p:Fn Tryz.prog 187 (.box [3] true true) Axk:=mkF [(183,(.box [3] true true),Va),(43,(.box [3] true true),Cc),(52,(.box [3] true true),Dr)] ⟨Abn,B7,Dl,trivial⟩ Tryz.func187 1
def Axl:Ao:=Am [g_2] (fun d=>(Ak6 d.1).val) fun r=>([rv Kx r.1],[rv g_2 r.2])
theorem A7q:Fn Tryz.prog 150 (.box [3] true true) Axl:=mkF [(186,(.box [3] true true),A00),(43,(.box [3] true true),Cc),(52,(.box [3] true true),Dr),(94,(.box [3] true true),Dx),(187,(.box [3] true true),Axk)] ⟨Bab,B7,Dl,Du,A7p,trivial⟩ Tryz.func150 1
def Asx:Ao:=Am [g_2] (fun d=>(Afy d.1).val) fun r=>([rv J1 r.1],[rv g_2 r.2])
theorem A4t:Fn Tryz.prog 95 (.box [3] true true) Asx:=mkF [(43,(.box [3] true true),Cc),(148,(.box [3] true true),Abo),(52,(.box [3] true true),Dr),(94,(.box [3] true true),Dx),(150,(.box [3] true true),Axl)] ⟨B7,Akt,Dl,Du,A7q,trivial⟩ Tryz.func95 1
def Asy:Ao:=Am [g_2] (fun d=>(Afz d.1).val) fun r=>([rv I3 r.1],[rv g_2 r.2])
theorem A4u:Fn Tryz.prog 188 (.box [3] true true) Asy:=mkF [(42,(.box [3] true true),F7),(43,(.box [3] true true),Cc),(97,(.box [3] true true),U5),(105,.plain,Rh)] ⟨F8,B7,Aa2,Th,trivial⟩ Tryz.func188 1
def Axm:Ao:=Am [g_2] (fun d=>(Ak7 d.1).val) fun r=>([rv g_3 r.1],[rv g_2 r.2])
theorem A7r:Fn Tryz.prog 189 (.box [3] true true) Axm:=mkF [(52,(.box [3] true true),Dr)] ⟨Dl,trivial⟩ Tryz.func189 1
def Ak8:Ao:=Am [g_2] (fun d=>(Ak9 d.1).val) fun r=>([rv I3 r.1],[rv g_2 r.2])
theorem Asz:Fn Tryz.prog 151 (.box [3] true true) Ak8:=mkF [(188,(.box [3] true true),Asy),(43,(.box [3] true true),Cc),(189,(.box [3] true true),Axm),(52,(.box [3] true true),Dr)] ⟨A4u,B7,A7r,Dl,trivial⟩ Tryz.func151 1
def As0:Ao:=Am [g_2] (fun d=>(Af0 d.1).val) fun r=>([rv Ht r.1],[rv g_2 r.2])
theorem A4v:Fn Tryz.prog 96 (.box [3] true true) As0:=mkF [(149,(.box [3] true true),Abt),(42,(.box [3] true true),F7),(43,(.box [3] true true),Cc),(151,(.box [3] true true),Ak8),(94,(.box [3] true true),Dx),(52,(.box [3] true true),Dr)] ⟨Akx,F8,B7,Asz,Du,Dl,trivial⟩ Tryz.func96 1
def As1:Ao:=Am [g_2] (fun d=>(Af1 d.1).val) fun r=>([rv H1 r.1],[rv g_2 r.2])
theorem A4w:Fn Tryz.prog 41 (.box [3] true false) As1:=mkF [(93,(.box [3] true false),Nn),(43,(.box [3] true true),Cc),(52,(.box [3] true true),Dr),(94,(.box [3] true true),Dx),(95,(.box [3] true true),Asx),(96,(.box [3] true true),As0),(55,.plain,Ri)] ⟨Pt,B7,Dl,Du,A4t,A4v,Tl,trivial⟩ Tryz.func41 1
def As2:Ao:=Am [g_2] (fun d=>(Vb d.1).val) fun r=>([rv g_9 r.1],[rv g_2 r.2])
def Vc:Fns:=[(92,(.box [3] true true),Ab2),(43,(.box [3] true true),Cc),(52,(.box [3] true true),Dr),(41,(.box [3] true false),As1),(93,(.box [3] true false),Nn),(55,.plain,Ri),(94,(.box [3] true true),Dx)]
theorem As3:CfgOk Tryz.prog (C9 Vc):=E5 J2 Hu (show Il Tryz.prog Vc from⟨Ak1,B7,Dl,A4w,Pt,Tl,Du,trivial⟩)
def Ajb:Sk:=⟨[(0,.box 0 0),(2,.box 2 0),(3,.box 3 0),(4,.box 4 0),(5,.v false [(.int .i64,.nil)])],[(0,[(.sl 5 [.int .u8],(.pin 0)),(.int .i64,.nil),(.int .i64,.nil)]),(2,[(.int .i64,.nil),(.sl 40 B5,(.own 14000000))]),(3,[(.int .i64,.nil),(.sl 40 B5,(.row 14000001))]),(4,[(.int .i64,.nil),(.sl 5 [.int .u8],.rd),(.sl 5 [.int .u8],.rd),(.int .i64,.nil),(.sl 5 [.int .u8],.rd),(.int .i64,.nil),(.sl 5 [.int .u8],.rd),(.int .i64,.nil),(.int .i64,.nil),(.sl 3 [.int .i64],.rd),(.int .i64,.nil),(.sl 5 [.int .u8],.rd),(.int .i64,.nil),(.int .i64,.nil),(.sl 3 [.int .i64],.rd),(.bool,.nil),(.int .i64,.nil),(.sl 5 [.int .u8],.rd),(.int .i64,.nil),(.int .i64,.nil),(.sl 169 h_4,.rd),(.int .i64,.nil),(.int .i64,.nil),(.bool,.nil)])],[14000000,14000001]⟩
def Ajc:List (Ex×Sk):=[((.exit 1),⟨[(0,.box 0 0),(2,.box 2 0),(3,.box 3 0)],[(0,[(.sl 5 [.int .u8],(.pin 0)),(.int .i64,.nil),(.int .i64,.nil)]),(2,[(.int .i64,.nil),(.sl 40 B5,(.own 14000000))]),(3,[(.int .i64,.nil),(.sl 40 B5,(.row 14000001))])],[14000000,14000001]⟩)]
def Af2:E0:=fun i st=>cond (Nat.beq i 13) (lam Ajb 14000000 Ajc Oh st) <| .fail
theorem Avi (cx:Cx) (hp:cx.pin.length≤1):De Tryz.prog cx Tryz.f40.ntmps Af2 (Ax Tryz.f40 0):=D6 As3 hp (Cv (by kernel_rfl:Be (Ax Tryz.f40 0)=[]) trivial) (by kernel_rfl) (fun d=>(by kernel_rfl:bod (C9 Vc) 1 Tryz.f40.ntmps Af2 (Ax Tryz.f40 0) Ajb 14000000 Ajc d=Oh d))
theorem A4x:Fn Tryz.prog 40 (.box [3] true false) As2:=K2 As3 Tryz.func40 (by kernel_rfl) (by kernel_rfl) (fun cx b hp hb=>Cv (by kernel_rfl:Be (Tryz.f40.body.getD .skip)=[Ax Tryz.f40 0]) ⟨Avi cx hp,trivial⟩ b hb) (fun d=>(by kernel_rfl:F6 (C9 Vc) 1 Af2 Tryz.f40 (.box [3] true false) (mkA [g_2] d)=(Vb d.1).run fun r=>some ([rv g_9 r.1],[rv g_2 r.2])))
def As4:Ao:=Am [g_2] (fun d=>(Af3 d.1).val) fun r=>([rv Ng r.1],[rv g_2 r.2])
theorem A4y:Fn Tryz.prog 118 (.box [3] true true) As4:=mkF [(166,(.box [3] true true),Ab5),(43,(.box [3] true true),Cc),(151,(.box [3] true true),Ak8),(52,(.box [3] true true),Dr)] ⟨Ak4,B7,Asz,Dl,trivial⟩ Tryz.func118 1
def Vd:Ao:=Am [g_2] (fun d=>(Af4 d.1).val) fun r=>([rv Fs r.1],[rv g_2 r.2])
theorem Ab8:Fn Tryz.prog 59 (.box [3] true false) Vd:=mkF [(115,(.box [3] true true),Aoy),(43,(.box [3] true true),Cc),(116,(.box [3] true false),Asv),(117,(.box [3] true true),Asw),(52,(.box [3] true true),Dr),(40,(.box [3] true false),As2),(118,(.box [3] true true),As4),(93,(.box [3] true false),Nn),(55,.plain,Ri)] ⟨A0z,B7,A4r,A4s,Dl,A4x,A4y,Pt,Tl,trivial⟩ Tryz.func59 1
def Ala:Ao:=Am [g_0] (fun d=>(Wn d.1).val) fun r=>([rv Fs r],[])
theorem Azi:Fn Tryz.prog 20 .view Ala:=mkF [(39,.ret,Zm),(59,(.box [3] true false),Vd)] ⟨Ae0,Ab8,trivial⟩ Tryz.func20 0
def C5:Ao:=Am [g_0] (fun d=>(Alb d.1).val) fun r=>([rv g_0 r],[])
theorem Cy:Fn Tryz.prog 65 .plain C5:=mkF [] trivial Tryz.func65 0
def Alc:Ao:=Am [g_4] (fun d=>(Wo d.1).val) fun r=>([rv g_4 r],[])
theorem Azj:Fn Tryz.prog 119 .plain Alc:=Ca [(65,.plain,C5)] ⟨Cy,trivial⟩ ⟨[(3,.v false [(.sl 22 [.sl 5 [.int .u8]],(.own 4000000))]),(7,.v false [(.sl 22 [.sl 5 [.int .u8]],.ro)]),(8,.v false [(.int .i64,.nil)]),(9,.v false [(.int .i64,.nil)])],[],[4000000]⟩ 4000000 [((.exit 0),⟨[(3,.v false [(.sl 22 [.sl 5 [.int .u8]],(.own 4000000))])],[],[4000000]⟩)] 3 Hj Tryz.func119 0
def Aoz:Ao:=Am [Ky] (fun d=>(Ab9 d.1).val) fun r=>([rv Ky r],[])
theorem A01:Fn Tryz.prog 192 .plain Aoz:=mkF [] trivial Tryz.func192 0
def Af5:Ao:=Am [Kx] (fun d=>(Af6 d.1).val) fun r=>([rv Kx r],[])
theorem Ao0:Fn Tryz.prog 156 .plain Af5:=mkF [(65,.plain,C5),(192,.plain,Aoz)] ⟨Cy,A01,trivial⟩ Tryz.func156 0
def Pu:Ao:=Am [J1] (fun d=>(Wp d.1).val) fun r=>([rv J1 r],[])
theorem Ui:Fn Tryz.prog 102 .plain Pu:=mkF [(65,.plain,C5),(156,.plain,Af5)] ⟨Cy,Ao0,trivial⟩ Tryz.func102 0
def Oi:Ao:=Am [Ht] (fun d=>(Uj d.1).val) fun r=>([rv Ht r],[])
theorem Rj:Fn Tryz.prog 103 .plain Oi:=Ca [(65,.plain,C5)] ⟨Cy,trivial⟩ ⟨[(2,.box 2 0),(3,.box 3 0),(10,.v false [(.sl 169 h_4,.ro)]),(11,.v false [(.int .i64,.nil)]),(12,.v false [(.int .i64,.nil)])],[(2,[(.int .i64,.nil),(.int .i64,.nil),(.sl 169 h_4,(.own 4000000))]),(3,[(.int .i64,.nil),(.int .i64,.nil),(.sl 169 h_4,(.own 4000001))])],[4000000,4000001]⟩ 4000000 [((.exit 0),⟨[(2,.box 2 0),(3,.box 3 0)],[(2,[(.int .i64,.nil),(.int .i64,.nil),(.sl 169 h_4,(.own 4000000))]),(3,[(.int .i64,.nil),(.int .i64,.nil),(.sl 169 h_4,(.own 4000001))])],[4000000,4000001]⟩)] 3 Gm Tryz.func103 0
def Jc:Ao:=Am [H1] (fun d=>(Wq d.1).val) fun r=>([rv H1 r],[])
theorem Kl:Fn Tryz.prog 46 .plain Jc:=mkF [(65,.plain,C5),(102,.plain,Pu),(103,.plain,Oi)] ⟨Cy,Ui,Rj,trivial⟩ Tryz.func46 0
def Sm:Ao:=Am [g_9] (fun d=>(Aca d.1).val) fun r=>([rv g_9 r],[])
theorem Wr:Fn Tryz.prog 44 .plain Sm:=Ca [(46,.plain,Jc)] ⟨Kl,trivial⟩ ⟨[(2,.box 2 0),(3,.box 3 0),(10,.v false [(.sl 40 B5,.ro)]),(11,.v false [(.int .i64,.nil)]),(12,.v false [(.int .i64,.nil)])],[(2,[(.int .i64,.nil),(.sl 40 B5,(.own 4000000))]),(3,[(.int .i64,.nil),(.sl 40 B5,(.own 4000001))])],[4000000,4000001]⟩ 4000000 [((.exit 0),⟨[(2,.box 2 0),(3,.box 3 0)],[(2,[(.int .i64,.nil),(.sl 40 B5,(.own 4000000))]),(3,[(.int .i64,.nil),(.sl 40 B5,(.own 4000001))])],[4000000,4000001]⟩)] 3 H7 Tryz.func44 0
def Z0:Ao:=Am [Ng] (fun d=>(Pv d.1).val) fun r=>([rv Ng r],[])
theorem Aql:Fn Tryz.prog 120 .plain Z0:=mkF [] trivial Tryz.func120 0
def Jd:Ao:=Am [Fs] (fun d=>(Rk d.1).val) fun r=>([rv Fs r],[])
theorem K3:Fn Tryz.prog 60 .plain Jd:=mkF [(119,.plain,Alc),(65,.plain,C5),(44,.plain,Sm),(120,.plain,Z0)] ⟨Azj,Cy,Wr,Aql,trivial⟩ Tryz.func60 0
def Bm:Ao:=Am [g_3,g_3,g_3] (fun d=>(Af7 d.1 d.2.1 d.2.2.1).val) fun r=>([rv g_1 r],[])
theorem Bh:Fn Tryz.prog 53 .plain Bm:=mkF [] trivial Tryz.func53 0
def Z1:Ao:=Am [g_8] (fun d=>(Axn d.1).val) fun r=>([rv g_1 r],[])
theorem Af8:Fn Tryz.prog 74 .plain Z1:=mkF [] trivial Tryz.func74 0
def Af9:Ao:=Am [g_5] (fun d=>(Aga d.1).val) fun r=>([rv g_1 r],[])
theorem Ao1:Fn Tryz.prog 75 .plain Af9:=mkF [(53,.plain,Bm)] ⟨Bh,trivial⟩ Tryz.func75 0
def Aqm:Ao:=Am [g_9] (fun d=>(Agb d.1).val) fun r=>([rv g_3 r],[])
theorem Axo:Fn Tryz.prog 18 .plain Aqm:=Ca [] trivial ⟨[(3,.v false [(.int .i64,.nil)]),(7,.v false [(.sl 40 B5,.ro)]),(8,.v false [(.int .i64,.nil)]),(9,.v false [(.int .i64,.nil)])],[],[]⟩ 4000000 [((.exit 0),⟨[(3,.v false [(.int .i64,.nil)])],[],[]⟩)] 3 G3 Tryz.func18 0
def Hc:Ao:=Am [g_0] (fun d=>(Ao2 d.1).val) fun r=>([rv g_1 r],[])
theorem Hv:Fn Tryz.prog 98 .plain Hc:=mkF [] trivial Tryz.func98 0
def H8:Ao:=Am [g_0,g_0] (fun d=>(Ajd d.1 d.2.1).val) fun r=>([rv g_1 r],[])
theorem Je:Fn Tryz.prog 58 .plain H8:=mkF [] trivial Tryz.func58 0
def Ald:Ao:=Am [g_6,g_6] (fun d=>(Ws d.1 d.2.1).val) fun r=>([rv g_1 r],[])
theorem Azk:Fn Tryz.prog 190 .plain Ald:=Ca [] trivial ⟨[(1,.v false [(.sl 3 [.int .i64],.ro)]),(12,.v false [(.sl 3 [.int .i64],.ro)]),(13,.v false [(.int .i64,.nil)]),(14,.v false [(.int .i64,.nil)])],[],[]⟩ 5000000 [(.ret,⟨[(4,.v false [(.bool,.nil)])],[],[]⟩),((.exit 0),⟨[],[],[]⟩)] 4 Ad0 Tryz.func190 0
def Agc:Ao:=Am [Kx,Kx] (fun d=>(Agd d.1 d.2.1).val) fun r=>([rv g_1 r],[])
theorem Ao3:Fn Tryz.prog 152 .plain Agc:=mkF [(58,.plain,H8),(190,.plain,Ald)] ⟨Je,Azk,trivial⟩ Tryz.func152 0
def Ad1:Ao:=Am [J1] (fun d=>(Rl d.1).val) fun r=>([rv g_1 r],[])
theorem As5:Fn Tryz.prog 99 .plain Ad1:=mkF [(152,.plain,Agc)] ⟨Ao3,trivial⟩ Tryz.func99 0
def Pw:Ao:=Am [g_3] (fun d=>(Age d.1).val) fun r=>([rv g_1 r],[])
theorem So:Fn Tryz.prog 153 .plain Pw:=mkF [] trivial Tryz.func153 0
def Px:Ao:=Am [g_6,g_3] (fun d=>(Wt d.1 d.2.1).val) fun r=>([rv g_1 r],[])
theorem Uk:Fn Tryz.prog 218 .plain Px:=Ca [(53,.plain,Bm)] ⟨Bh,trivial⟩ ⟨[(0,.v false [(.sl 3 [.int .i64],.ro)]),(1,.v false [(.int .i64,.nil)]),(7,.v false [(.sl 3 [.int .i64],.ro)]),(8,.v false [(.int .i64,.nil)]),(9,.v false [(.int .i64,.nil)])],[],[]⟩ 3000000 [(.ret,⟨[(4,.v false [(.bool,.nil)])],[],[]⟩),((.exit 0),⟨[(0,.v false [(.sl 3 [.int .i64],.ro)]),(1,.v false [(.int .i64,.nil)])],[],[]⟩)] 2 Jf Tryz.func218 0
def As6:Ao:=Am [Ky,g_3] (fun d=>(Agf d.1 d.2.1).val) fun r=>([rv g_1 r],[])
theorem A4z:Fn Tryz.prog 219 .plain As6:=mkF [] trivial Tryz.func219 0
def Axp:Ao:=Am [Ky] (fun d=>(Ale d.1).val) fun r=>([rv g_1 r],[])
theorem A7s:Fn Tryz.prog 191 .plain Axp:=Ca [(53,.plain,Bm),(218,.plain,Px),(219,.plain,As6)] ⟨Bh,Uk,A4z,trivial⟩ ⟨[(1,.box 1 0),(3,.v false [(.int .i64,.nil)])],[(1,[(.int .i64,.nil),(.sl 3 [.int .i64],.ro)])],[]⟩ 5000000 [(.ret,⟨[(2,.v false [(.bool,.nil)])],[],[]⟩),((.exit 0),⟨[(1,.box 1 0)],[(1,[(.int .i64,.nil),(.sl 3 [.int .i64],.ro)])],[]⟩)] 4 Ks Tryz.func191 0
def Agg:Ao:=Am [Kx] (fun d=>(Aqn d.1).val) fun r=>([rv g_1 r],[])
theorem Alf:Fn Tryz.prog 154 .plain Agg:=mkF [(53,.plain,Bm),(191,.plain,Axp)] ⟨Bh,A7s,trivial⟩ Tryz.func154 0
def Axq:Ao:=Am [J1] (fun d=>(Alg d.1).val) fun r=>([rv g_1 r],[])
theorem A7t:Fn Tryz.prog 155 .plain Axq:=mkF [(152,.plain,Agc),(154,.plain,Agg),(53,.plain,Bm)] ⟨Ao3,Alf,Bh,trivial⟩ Tryz.func155 0
def Ve:Ao:=Am [J1] (fun d=>(Agh d.1).val) fun r=>([rv g_1 r],[])
theorem Acb:Fn Tryz.prog 100 .plain Ve:=mkF [(153,.plain,Pw),(98,.plain,Hc),(154,.plain,Agg),(155,.plain,Axq)] ⟨So,Hv,Alf,A7t,trivial⟩ Tryz.func100 0
def J3:Ao:=Am [I3] (fun d=>(Agi d.1).val) fun r=>([rv g_1 r],[])
theorem Kt:Fn Tryz.prog 80 .plain J3:=mkF [(53,.plain,Bm)] ⟨Bh,trivial⟩ Tryz.func80 0
def Acc:Ao:=Am [Ht] (fun d=>(Sp d.1).val) fun r=>([rv g_1 r],[])
def Np:Fns:=[(80,.plain,J3),(98,.plain,Hc),(53,.plain,Bm)]
theorem Acd:CfgOk Tryz.prog (C9 Np):=E5 J2 Hu (show Il Tryz.prog Np from⟨Kt,Hv,Bh,trivial⟩)
def Aje:Sk:=⟨[(1,.box 1 0),(18,.v false [(.sl 169 h_4,.ro)]),(19,.v false [(.int .i64,.nil)]),(20,.v false [(.int .i64,.nil)])],[(1,[(.int .i64,.nil),(.int .i64,.nil),(.sl 169 h_4,.ro)])],[]⟩
def Ajf:List (Ex×Sk):=[(.ret,⟨[(2,.v false [(.bool,.nil)])],[],[]⟩),((.exit 0),⟨[],[],[]⟩)]
def Ajg:Sk:=⟨[(1,.box 1 0),(4,.box 4 0),(18,.v false [(.sl 169 h_4,.ro)]),(19,.v false [(.int .i64,.nil)]),(20,.v false [(.int .i64,.nil)]),(51,.v false [(.sl 169 h_4,.ro)]),(52,.v false [(.int .i64,.nil)]),(53,.v false [(.int .i64,.nil)])],[(1,[(.int .i64,.nil),(.int .i64,.nil),(.sl 169 h_4,.ro)]),(4,[(.int .i64,.nil),(.int .i64,.nil),(.sl 5 [.int .u8],.ro),(.int .i64,.nil)])],[]⟩
def Ajh:List (Ex×Sk):=[(.ret,⟨[(2,.v false [(.bool,.nil)])],[],[]⟩),((.exit 2),⟨[(1,.box 1 0),(18,.v false [(.sl 169 h_4,.ro)]),(19,.v false [(.int .i64,.nil)]),(20,.v false [(.int .i64,.nil)])],[(1,[(.int .i64,.nil),(.int .i64,.nil),(.sl 169 h_4,.ro)])],[]⟩)]
def Nq:E0:=fun i st=>cond (Nat.beq i 9) (lam Ajg 10000000 Ajh Gv st) <| cond (Nat.beq i 4) (lam Aje 5000000 Ajf H9 st) <| .fail
theorem Avj (cx:Cx) (hp:cx.pin.length≤0):De Tryz.prog cx Tryz.f101.ntmps Nq (Ax Tryz.f101 1):=D6 Acd hp (Cv (by kernel_rfl:Be (Ax Tryz.f101 1)=[]) trivial) (by kernel_rfl) (fun d=>(by kernel_rfl:bod (C9 Np) 0 Tryz.f101.ntmps Nq (Ax Tryz.f101 1) Ajg 10000000 Ajh d=Gv d))
theorem Avk (cx:Cx) (hp:cx.pin.length≤0):De Tryz.prog cx Tryz.f101.ntmps Nq (Ax Tryz.f101 0):=D6 Acd hp (Cv (by kernel_rfl:Be (Ax Tryz.f101 0)=[Ax Tryz.f101 1]) ⟨Avj cx hp,trivial⟩) (by kernel_rfl) (fun d=>(by kernel_rfl:bod (C9 Np) 0 Tryz.f101.ntmps Nq (Ax Tryz.f101 0) Aje 5000000 Ajf d=H9 d))
theorem Alh:Fn Tryz.prog 101 .plain Acc:=K2 Acd Tryz.func101 (by kernel_rfl) (by kernel_rfl) (fun cx b hp hb=>Cv (by kernel_rfl:Be (Tryz.f101.body.getD .skip)=[Ax Tryz.f101 0]) ⟨Avk cx hp,trivial⟩ b hb) (fun d=>(by kernel_rfl:F6 (C9 Np) 0 Nq Tryz.f101 .plain (mkA [Ht] d)=(Sp d.1).run fun r=>some ([rv g_1 r],[])))
def Py:Ao:=Am [H1] (fun d=>(Agj d.1).val) fun r=>([rv g_1 r],[])
theorem Sq:Fn Tryz.prog 45 .plain Py:=mkF [(53,.plain,Bm),(98,.plain,Hc),(99,.plain,Ad1),(100,.plain,Ve),(58,.plain,H8),(101,.plain,Acc)] ⟨Bh,Hv,As5,Acb,Je,Alh,trivial⟩ Tryz.func45 0
def Agk:Ao:=Am [g_9,g_0] (fun d=>(Agl d.1 d.2.1).val) fun r=>([rv g_3 r],[])
theorem Ao4:Fn Tryz.prog 19 .plain Agk:=Ca [(58,.plain,H8)] ⟨Je,trivial⟩ ⟨[(1,.v false [(.sl 5 [.int .u8],.ro)]),(8,.v false [(.sl 40 B5,.ro)]),(9,.v false [(.int .i64,.nil)]),(10,.v false [(.int .i64,.nil)])],[],[]⟩ 3000000 [(.ret,⟨[(4,.v false [(.int .i64,.nil)])],[],[]⟩),((.exit 0),⟨[],[],[]⟩)] 2 Li Tryz.func19 0
def Z2:Ao:=Am [g_9] (fun d=>(Ali d.1).val) fun r=>([rv g_1 r],[])
theorem Agm:Fn Tryz.prog 15 .plain Z2:=Ca [(53,.plain,Bm),(18,.plain,Aqm),(45,.plain,Py),(19,.plain,Agk)] ⟨Bh,Axo,Sq,Ao4,trivial⟩ ⟨[(1,.box 1 0),(23,.v false [(.sl 40 B5,.ro)]),(24,.v false [(.int .i64,.nil)]),(25,.v false [(.int .i64,.nil)])],[(1,[(.int .i64,.nil),(.sl 40 B5,.ro)])],[]⟩ 5000000 [(.ret,⟨[(2,.v false [(.bool,.nil)])],[],[]⟩),((.exit 0),⟨[],[],[]⟩)] 4 Nr Tryz.func15 0
def Alj:Ao:=Am [Ng,I3] (fun d=>(Wu d.1 d.2.1).val) fun r=>([rv g_3 r],[])
theorem Azl:Fn Tryz.prog 129 .plain Alj:=Ca [] trivial ⟨[(3,.box 3 0),(7,.v false [(.sl 147 h_2,.ro)]),(8,.v false [(.int .i64,.nil)]),(9,.v false [(.int .i64,.nil)])],[(3,[(.int .i64,.nil),(.int .i64,.nil)])],[]⟩ 3000000 [(.ret,⟨[(4,.v false [(.int .i64,.nil)])],[],[]⟩),((.exit 0),⟨[],[],[]⟩)] 2 Jg Tryz.func129 0
def Aji:Ao:=Am [Ng] (fun d=>(Ul d.1).val) fun r=>([rv g_1 r],[])
theorem Avl:Fn Tryz.prog 76 .plain Aji:=Ca [(80,.plain,J3),(53,.plain,Bm),(129,.plain,Alj)] ⟨Kt,Bh,Azl,trivial⟩ ⟨[(0,.v false [(.sl 147 h_2,.ro)]),(8,.v false [(.sl 147 h_2,.ro)]),(9,.v false [(.int .i64,.nil)]),(10,.v false [(.int .i64,.nil)])],[],[]⟩ 5000000 [(.ret,⟨[(2,.v false [(.bool,.nil)])],[],[]⟩),((.exit 0),⟨[],[],[]⟩)] 4 Ip Tryz.func76 0
def Axr:Ao:=Am [g_0] (fun d=>(Alk d.1).val) fun r=>([rv g_1 r],[])
theorem A7u:Fn Tryz.prog 77 .plain Axr:=mkF [(53,.plain,Bm)] ⟨Bh,trivial⟩ Tryz.func77 0
def Hw:Ao:=Am [Fs] (fun d=>(Pz d.1).val) fun r=>([rv g_1 r],[])
def Lj:Fns:=[(53,.plain,Bm),(74,.plain,Z1),(75,.plain,Af9),(15,.plain,Z2),(76,.plain,Aji),(77,.plain,Axr)]
theorem Wv:CfgOk Tryz.prog (C9 Lj):=E5 J2 Hu (show Il Tryz.prog Lj from⟨Bh,Af8,Ao1,Agm,Avl,A7u,trivial⟩)
def Z3:Sk:=⟨[(1,.box 1 0),(49,.v false [(.sl 40 B5,.ro)]),(50,.v false [(.int .i64,.nil)]),(51,.v false [(.int .i64,.nil)])],[(1,[(.sl 22 [.sl 5 [.int .u8]],.ro),(.sl 5 [.int .u8],.ro),(.sl 5 [.int .u8],.ro),(.int .i64,.nil),(.int .i64,.nil),(.sl 40 B5,.ro),(.sl 147 h_2,.ro)])],[]⟩
def Z4:List (Ex×Sk):=[(.ret,⟨[(2,.v false [(.bool,.nil)])],[],[]⟩),((.exit 2),⟨[],[],[]⟩)]
def Ad2:Sk:=⟨[(1,.box 1 0),(37,.v false [(.sl 22 [.sl 5 [.int .u8]],.ro)]),(38,.v false [(.int .i64,.nil)]),(39,.v false [(.int .i64,.nil)])],[(1,[(.sl 22 [.sl 5 [.int .u8]],.ro),(.sl 5 [.int .u8],.ro),(.sl 5 [.int .u8],.ro),(.int .i64,.nil),(.int .i64,.nil),(.sl 40 B5,.ro),(.sl 147 h_2,.ro)])],[]⟩
def Ad3:List (Ex×Sk):=[(.ret,⟨[(2,.v false [(.bool,.nil)])],[],[]⟩),((.exit 0),⟨[(1,.box 1 0)],[(1,[(.sl 22 [.sl 5 [.int .u8]],.ro),(.sl 5 [.int .u8],.ro),(.sl 5 [.int .u8],.ro),(.int .i64,.nil),(.int .i64,.nil),(.sl 40 B5,.ro),(.sl 147 h_2,.ro)])],[]⟩)]
def Lk:E0:=fun i st=>cond (Nat.beq i 4) (lam Ad2 5000000 Ad3 Hk st) <| cond (Nat.beq i 10) (lam Z3 11000000 Z4 Gn st) <| .fail
theorem As7 (cx:Cx) (hp:cx.pin.length≤0):De Tryz.prog cx Tryz.f25.ntmps Lk (Ax Tryz.f25 0):=D6 Wv hp (Cv (by kernel_rfl:Be (Ax Tryz.f25 0)=[]) trivial) (by kernel_rfl) (fun d=>(by kernel_rfl:bod (C9 Lj) 0 Tryz.f25.ntmps Lk (Ax Tryz.f25 0) Ad2 5000000 Ad3 d=Hk d))
theorem Aqo (cx:Cx) (hp:cx.pin.length≤0):De Tryz.prog cx Tryz.f25.ntmps Lk (Ax Tryz.f25 1):=D6 Wv hp (Cv (by kernel_rfl:Be (Ax Tryz.f25 1)=[]) trivial) (by kernel_rfl) (fun d=>(by kernel_rfl:bod (C9 Lj) 0 Tryz.f25.ntmps Lk (Ax Tryz.f25 1) Z3 11000000 Z4 d=Gn d))
theorem Ia:Fn Tryz.prog 25 .plain Hw:=K2 Wv Tryz.func25 (by kernel_rfl) (by kernel_rfl) (fun cx b hp hb=>Cv (by kernel_rfl:Be (Tryz.f25.body.getD .skip)=[Ax Tryz.f25 0,Ax Tryz.f25 1]) ⟨As7 cx hp,Aqo cx hp,trivial⟩ b hb) (fun d=>(by kernel_rfl:F6 (C9 Lj) 0 Lk Tryz.f25 .plain (mkA [Fs] d)=(Pz d.1).run fun r=>some ([rv g_1 r],[])))
def Ll:Ao:=Am [g_0,g_3,g_3] (fun d=>(A02 d.1 d.2.1 d.2.2.1).val) fun r=>([rv g_0 r],[])
theorem Lm:Fn Tryz.prog 132 .plain Ll:=Ca [] trivial ⟨[(1,.v false [(.int .i64,.nil)]),(7,.v false [(.sl 5 [.int .u8],(.own 6000000))]),(8,.v false [(.int .i64,.nil)])],[],[6000000]⟩ 6000000 [((.exit 0),⟨[(7,.v false [(.sl 5 [.int .u8],(.own 6000000))])],[],[6000000]⟩)] 5 As8 Tryz.func132 0
def Axs:Ao:=Am [] (fun d=>(Axt).val) fun r=>([rv g_6 r],[])
theorem A7v:Fn Tryz.prog 228 .plain Axs:=mkF [] trivial Tryz.func228 0
def Ao5:Ao:=Am [] (fun d=>(Ao6).val) fun r=>([rv A0j r],[])
theorem A03:Fn Tryz.prog 200 .plain Ao5:=mkF [(228,.plain,Axs)] ⟨A7v,trivial⟩ Tryz.func200 0
def Agn:Ao:=Am [A0j] (fun d=>(Ago d.1).val) fun r=>([rv g_1 r],[])
theorem Ao7:Fn Tryz.prog 224 .plain Agn:=mkF [(218,.plain,Px),(53,.plain,Bm)] ⟨Uk,Bh,trivial⟩ Tryz.func224 0
def G4:Ao:=Am [g_4] (fun d=>(Agp d.1).val) fun r=>([rv g_0 r],[])
theorem Hd:Fn Tryz.prog 130 .plain G4:=Ca [] trivial ⟨[(3,.v false [(.sl 5 [.int .u8],(.own 4000000))]),(7,.v false [(.sl 22 [.sl 5 [.int .u8]],.ro)]),(8,.v false [(.int .i64,.nil)]),(9,.v false [(.int .i64,.nil)])],[],[4000000]⟩ 4000000 [((.exit 0),⟨[(3,.v false [(.sl 5 [.int .u8],(.own 4000000))])],[],[4000000]⟩)] 3 Jh Tryz.func130 0
def A6d:Ao:=Am [g_0,g_3,g_3] (fun d=>(Avm d.1 d.2.1 d.2.2.1).val) fun r=>([rv g_0 r.1,rv g_1 r.2],[])
theorem Bcx:Fn Tryz.prog 247 .plain A6d:=mkF [] trivial Tryz.func247 0
def A04:Ao:=Am [g_0,g_3,g_3] (fun d=>(Aqp d.1 d.2.1 d.2.2.1).val) fun r=>([rv g_3 r.1,rv g_3 r.2.1,rv g_1 r.2.2],[])
theorem Bac:Fn Tryz.prog 246 .plain A04:=Ca [(247,.plain,A6d)] ⟨Bcx,trivial⟩ ⟨[(1,.v false [(.int .i64,.nil)]),(2,.v false [(.int .i64,.nil)]),(11,.v false [(.int .i64,.nil)]),(29,.v false [(.sl 5 [.int .u8],(.own 9000000))]),(30,.v false [(.int .i64,.nil)]),(31,.v false [(.int .i64,.nil)])],[],[9000000]⟩ 9000000 [((.exit 0),⟨[(1,.v false [(.int .i64,.nil)]),(2,.v false [(.int .i64,.nil)]),(11,.v false [(.int .i64,.nil)])],[],[]⟩)] 8 Mv Tryz.func246 0
def Avn:Ao:=Am [g_3,g_3] (fun d=>(Avo d.1 d.2.1).val) fun r=>([rv g_3 r],[])
theorem A05:Fn Tryz.prog 241 .plain Avn:=mkF [] trivial Tryz.func241 0
def All:Ao:=Am [g_0] (fun d=>(P0 d.1).val) fun r=>([rv g_6 r],[])
def Ln:Fns:=[(246,.plain,A04),(241,.plain,Avn)]
theorem Ww:CfgOk Tryz.prog (C9 Ln):=E5 J2 Hu (show Il Tryz.prog Ln from⟨Bac,A05,trivial⟩)
def Ad4:Sk:=⟨[(3,.v false [(.sl 3 [.int .i64],(.own 10000000))]),(5,.v false [(.int .i64,.nil)])],[],[10000000]⟩
def Ad5:List (Ex×Sk):=[((.exit 2),⟨[(3,.v false [(.sl 3 [.int .i64],(.own 10000000))])],[],[10000000]⟩)]
def Ad6:Sk:=⟨[(0,.v false [(.sl 5 [.int .u8],.ro)]),(3,.v false [(.sl 3 [.int .i64],(.own 6000000))]),(4,.v false [(.int .i64,.nil)])],[],[6000000]⟩
def Ad7:List (Ex×Sk):=[((.exit 0),⟨[(3,.v false [(.sl 3 [.int .i64],(.own 6000000))])],[],[6000000]⟩)]
def Lo:E0:=fun i st=>cond (Nat.beq i 5) (lam Ad6 6000000 Ad7 Hl st) <| cond (Nat.beq i 9) (lam Ad4 10000000 Ad5 Hm st) <| .fail
theorem As9 (cx:Cx) (hp:cx.pin.length≤0):De Tryz.prog cx Tryz.f240.ntmps Lo (Ax Tryz.f240 0):=D6 Ww hp (Cv (by kernel_rfl:Be (Ax Tryz.f240 0)=[]) trivial) (by kernel_rfl) (fun d=>(by kernel_rfl:bod (C9 Ln) 0 Tryz.f240.ntmps Lo (Ax Tryz.f240 0) Ad6 6000000 Ad7 d=Hl d))
theorem Ata (cx:Cx) (hp:cx.pin.length≤0):De Tryz.prog cx Tryz.f240.ntmps Lo (Ax Tryz.f240 1):=D6 Ww hp (Cv (by kernel_rfl:Be (Ax Tryz.f240 1)=[]) trivial) (by kernel_rfl) (fun d=>(by kernel_rfl:bod (C9 Ln) 0 Tryz.f240.ntmps Lo (Ax Tryz.f240 1) Ad4 10000000 Ad5 d=Hm d))
theorem Azm:Fn Tryz.prog 240 .plain All:=K2 Ww Tryz.func240 (by kernel_rfl) (by kernel_rfl) (fun cx b hp hb=>Cv (by kernel_rfl:Be (Tryz.f240.body.getD .skip)=[Ax Tryz.f240 0,Ax Tryz.f240 1]) ⟨As9 cx hp,Ata cx hp,trivial⟩ b hb) (fun d=>(by kernel_rfl:F6 (C9 Ln) 0 Lo Tryz.f240 .plain (mkA [g_0] d)=(P0 d.1).run fun r=>some ([rv g_6 r],[])))
theorem Bad (n:Int) (w:World) (h0:0≤n) (h1:n≤63):
  Calls Tryz.prog 242 #[.int .i64 n] w (Ret w (.int .i64 (Ns[n.toNat]?.getD 0))):=by
 have hx: ∃x,Ns[n.toNat]? =some x:=⟨_,List.getElem?_eq_getElem (by simp[Ns];omega)⟩
 obtain⟨x,hx⟩:=hx
 have hcell:(Alm 232 w Atb).cell? ⟨w.heap.size,n.toNat,none⟩=some (.int .i64 x):=by
  rw[A40];unfold Atb;rw[List.getElem?_toArray,List.getElem?_map,hx];rfl
 rw[hx]
 go_enter Tryz.func242,Tryz.ntmps242
 go_wp2_with (first|(refine Azn rfl 232 _ rfl Atb (by kernel_rfl) ?_)|(refine Azo rfl 232 rfl _ _ Atc (by kernel_rfl) (by kernel_rfl) (by kernel_rfl) ?_)|(refine Azp rfl 232 _ _ rfl Atb rfl rfl (by kernel_rfl) (by kernel_rfl) (by kernel_rfl) ?_))
 go_ret
 refine Ret.mk rfl ?_
 rw[Bae]
 exact(Cf.refl _).alloc _
theorem Baf (n:Int) (w:World) (h0: ¬(0≤n∧n≤63)):
  Calls Tryz.prog 242 #[.int .i64 n] w (Ret w (.int .i64 0)):=by
 by_cases h:n<0
 ·go_enter Tryz.func242,Tryz.ntmps242
  go_wp2_with fail
  go_ret
  exact Ret.mk rfl (Cf.refl _)
 ·have h2:63<n:=by omega
  go_enter Tryz.func242,Tryz.ntmps242
  go_wp2_with fail
  go_ret
  exact Ret.mk rfl (Cf.refl _)
def Azq:List (Bool×List Sh):=[(false,[.int .i64])]
def Azr (r:YI):List RV×List RV:=([rv (false,[.int .i64]) r],[])
def Ajj:Ao:=Am Azq (fun d=>(Ajk d.1).val) Azr
theorem Avp:Fn Tryz.prog 242 .plain Ajj:=by
 refine⟨?_,Tryz.f242,Tryz.func242,by kernel_rfl,by kernel_rfl⟩
 intro rs res vals w G hv hG hr
 obtain⟨d,x,rfl,h1,h2⟩:=A06 hv
 obtain⟨⟨n,_⟩,_⟩:=d
 cases h1
 subst h2
 match vals,hr with
 |[v],hr=>
  have e:v= .int .i64 n:=hr.1.1.1
  subst e
  refine(?_:Calls Tryz.prog 242 #[.int .i64 n] w (Ret w (.int .i64 (Tm n)))).mono fun e w' h=>Bag (Bah n) h
  unfold Tm
  by_cases h:0≤n∧n≤63
  ·rw[if_pos h];exact Bad n w h.1 h.2
  ·rw[if_neg h];exact Baf n w h

def Axu:Ao:=Am [g_3,g_3] (fun d=>(Axv d.1 d.2.1).val) fun r=>([rv g_3 r],[])
theorem A7w:Fn Tryz.prog 243 .plain Axu:=mkF [] trivial Tryz.func243 0
def Aln:Ao:=Am [g_6,g_0] (fun d=>(P1 d.1 d.2.1).val) fun r=>([rv g_6 r],[])
def Lp:Fns:=[(218,.plain,Px),(240,.plain,All),(241,.plain,Avn),(242,.plain,Ajj),(243,.plain,Axu)]
theorem Wx:CfgOk Tryz.prog (C9 Lp):=E5 J2 Hu (show Il Tryz.prog Lp from⟨Uk,Azm,A05,Avp,A7w,trivial⟩)
def Z5:Sk:=⟨[(0,.v false [(.sl 3 [.int .i64],.ro)]),(5,.v false [(.sl 3 [.int .i64],(.own 17000000))]),(133,.v false [(.sl 3 [.int .i64],(.own 17000001))]),(134,.v false [(.int .i64,.nil)]),(135,.v false [(.int .i64,.nil)])],[],[17000000,17000001]⟩
def Z6:List (Ex×Sk):=[((.exit 2),⟨[(5,.v false [(.sl 3 [.int .i64],(.own 17000000))])],[],[17000000]⟩)]
def Ad8:Sk:=⟨[(0,.v false [(.sl 3 [.int .i64],.ro)]),(5,.v false [(.sl 3 [.int .i64],(.own 8000000))]),(6,.v false [(.sl 3 [.int .i64],(.own 8000001))]),(7,.v false [(.int .i64,.nil)]),(8,.v false [(.int .i64,.nil)]),(9,.v false [(.int .i64,.nil)]),(10,.v false [(.int .i64,.nil)]),(11,.v false [(.int .i64,.nil)]),(12,.v false [(.int .i64,.nil)]),(13,.v false [(.int .i64,.nil)]),(14,.v false [(.int .i64,.nil)]),(15,.v false [(.int .i64,.nil)])],[],[8000000,8000001]⟩
def Ad9:List (Ex×Sk):=[((.exit 0),⟨[(0,.v false [(.sl 3 [.int .i64],.ro)]),(5,.v false [(.sl 3 [.int .i64],(.own 8000000))]),(7,.v false [(.int .i64,.nil)]),(8,.v false [(.int .i64,.nil)]),(9,.v false [(.int .i64,.nil)]),(10,.v false [(.int .i64,.nil)]),(11,.v false [(.int .i64,.nil)]),(12,.v false [(.int .i64,.nil)]),(13,.v false [(.int .i64,.nil)]),(14,.v false [(.int .i64,.nil)])],[],[8000000]⟩)]
def Lq:E0:=fun i st=>cond (Nat.beq i 7) (lam Ad8 8000000 Ad9 F0 st) <| cond (Nat.beq i 16) (lam Z5 17000000 Z6 Fh st) <| .fail
theorem Atd (cx:Cx) (hp:cx.pin.length≤0):De Tryz.prog cx Tryz.f236.ntmps Lq (Ax Tryz.f236 0):=D6 Wx hp (Cv (by kernel_rfl:Be (Ax Tryz.f236 0)=[]) trivial) (by kernel_rfl) (fun d=>(by kernel_rfl:bod (C9 Lp) 0 Tryz.f236.ntmps Lq (Ax Tryz.f236 0) Ad8 8000000 Ad9 d=F0 d))
theorem Aqq (cx:Cx) (hp:cx.pin.length≤0):De Tryz.prog cx Tryz.f236.ntmps Lq (Ax Tryz.f236 1):=D6 Wx hp (Cv (by kernel_rfl:Be (Ax Tryz.f236 1)=[]) trivial) (by kernel_rfl) (fun d=>(by kernel_rfl:bod (C9 Lp) 0 Tryz.f236.ntmps Lq (Ax Tryz.f236 1) Z5 17000000 Z6 d=Fh d))
theorem Azs:Fn Tryz.prog 236 .plain Aln:=K2 Wx Tryz.func236 (by kernel_rfl) (by kernel_rfl) (fun cx b hp hb=>Cv (by kernel_rfl:Be (Tryz.f236.body.getD .skip)=[Ax Tryz.f236 0,Ax Tryz.f236 1]) ⟨Atd cx hp,Aqq cx hp,trivial⟩ b hb) (fun d=>(by kernel_rfl:F6 (C9 Lp) 0 Lq Tryz.f236 .plain (mkA [g_6,g_0] d)=(P1 d.1 d.2.1).run fun r=>some ([rv g_6 r],[])))
def P2:Ao:=Am [g_6,g_0] (fun d=>(P3 d.1 d.2.1).val) fun r=>([rv g_6 r.1,rv g_0 r.2],[])
theorem Wy:Fn Tryz.prog 225 .view P2:=Ca [(236,.plain,Aln)] ⟨Azs,trivial⟩ ⟨[(0,.v false [(.sl 3 [.int .i64],.rd)]),(1,.v false [(.sl 5 [.int .u8],.ro)])],[],[]⟩ 2000000 [((.exit 0),⟨[(0,.v false [(.sl 3 [.int .i64],.rd)]),(1,.v false [(.sl 5 [.int .u8],.ro)])],[],[]⟩)] 1 Et Tryz.func225 0
def Ao8:Ao:=Am [A0j,g_0] (fun d=>(Ace d.1 d.2.1).val) fun r=>([rv A0j r],[])
theorem A07:Fn Tryz.prog 199 .plain Ao8:=mkF [(224,.plain,Agn),(65,.plain,C5),(130,.plain,G4),(225,.view,P2)] ⟨Ao7,Cy,Hd,Wy,trivial⟩ Tryz.func199 0
def A6e:Ao:=Am [g_3] (fun d=>(Avq d.1).val) fun r=>([rv g_0 r],[])
theorem Bcy:Fn Tryz.prog 226 .plain A6e:=Ca [(53,.plain,Bm),(132,.plain,Ll)] ⟨Bh,Lm,trivial⟩ ⟨[(0,.v false [(.int .i64,.nil)]),(3,.v false [(.sl 5 [.int .u8],(.own 5000000))])],[],[5000000]⟩ 5000000 [((.exit 0),⟨[(0,.v false [(.int .i64,.nil)]),(3,.v false [(.sl 5 [.int .u8],(.own 5000000))])],[],[5000000]⟩)] 4 Lr Tryz.func226 0
def Ajl:Ao:=Am [g_6] (fun d=>(Um d.1).val) fun r=>([rv g_0 r],[])
theorem Avr:Fn Tryz.prog 227 .plain Ajl:=Ca [(132,.plain,Ll)] ⟨Lm,trivial⟩ ⟨[(3,.v false [(.sl 5 [.int .u8],(.own 4000000))]),(7,.v false [(.sl 3 [.int .i64],.ro)]),(8,.v false [(.int .i64,.nil)]),(9,.v false [(.int .i64,.nil)])],[],[4000000]⟩ 4000000 [((.exit 0),⟨[(3,.v false [(.sl 5 [.int .u8],(.own 4000000))])],[],[4000000]⟩)] 3 Gp Tryz.func227 0
def Ao9:Ao:=Am [A0j] (fun d=>(Acf d.1).val) fun r=>([rv g_0 r],[])
theorem A08:Fn Tryz.prog 198 .plain Ao9:=mkF [(224,.plain,Agn),(226,.plain,A6e),(130,.plain,G4),(225,.view,P2),(227,.plain,Ajl)] ⟨Ao7,Bcy,Hd,Wy,Avr,trivial⟩ Tryz.func198 0
def Avs:Ao:=Am [g_0] (fun d=>(Avt d.1).val) fun r=>([rv g_0 r],[])
theorem A09:Fn Tryz.prog 170 .plain Avs:=mkF [(200,.plain,Ao5),(199,.plain,Ao8),(198,.plain,Ao9)] ⟨A03,A07,A08,trivial⟩ Tryz.func170 0
def Alo:Ao:=Am [g_0] (fun d=>(Wz d.1).val) fun r=>([rv g_0 r],[])
theorem Azt:Fn Tryz.prog 169 .plain Alo:=Ca [(65,.plain,C5),(170,.plain,Avs)] ⟨Cy,A09,trivial⟩ ⟨[(3,.v false [(.sl 5 [.int .u8],(.own 7000000))])],[],[7000000]⟩ 7000000 [((.exit 0),⟨[(3,.v false [(.sl 5 [.int .u8],(.own 7000000))])],[],[7000000]⟩)] 6 E9 Tryz.func169 0
def Ate:Ao:=Am [g_0,Bh1] (fun d=>(Agq d.1 d.2.1).val) fun r=>([rv g_0 r],[])
theorem A41:Fn Tryz.prog 171 .plain Ate:=Ca [] trivial ⟨[(1,.v false [(.int .u8,.nil)]),(5,.v false [(.sl 5 [.int .u8],(.own 4000000))]),(9,.v false [(.sl 5 [.int .u8],.ro)]),(10,.v false [(.int .i64,.nil)]),(11,.v false [(.int .i64,.nil)])],[],[4000000]⟩ 4000000 [((.exit 0),⟨[(5,.v false [(.sl 5 [.int .u8],(.own 4000000))])],[],[4000000]⟩)] 3 Ji Tryz.func171 0
def W0:Ao:=Am [g_0,g_0] (fun d=>(Aqr d.1 d.2.1).val) fun r=>([rv g_0 r],[])
theorem Z7:Fn Tryz.prog 133 .plain W0:=mkF [(169,.plain,Alo),(171,.plain,Ate),(130,.plain,G4),(170,.plain,Avs)] ⟨Azt,A41,Hd,A09,trivial⟩ Tryz.func133 0
def Atf:Ao:=Am [g_0,g_3] (fun d=>(Agr d.1 d.2.1).val) fun r=>([rv g_0 r],[])
theorem A42:Fn Tryz.prog 121 .plain Atf:=mkF [(53,.plain,Bm),(132,.plain,Ll),(133,.plain,W0),(65,.plain,C5)] ⟨Bh,Lm,Z7,Cy,trivial⟩ Tryz.func121 0
def A1a:Ao:=Am [g_5] (fun d=>(Aqs d.1).val) fun r=>([rv g_5 r.1,rv g_0 r.2],[])
theorem Bai:Fn Tryz.prog 61 .plain A1a:=mkF [(65,.plain,C5),(75,.plain,Af9),(121,.plain,Atf)] ⟨Cy,Ao1,A42,trivial⟩ Tryz.func61 0
def Atg:Ao:=Am [g_0,g_0,g_3] (fun d=>(Ags d.1 d.2.1 d.2.2.1).val) fun r=>([rv g_0 r.1,rv g_1 r.2],[])
theorem A43:Fn Tryz.prog 167 .plain Atg:=Ca [(53,.plain,Bm),(130,.plain,G4),(133,.plain,W0),(65,.plain,C5)] ⟨Bh,Hd,Z7,Cy,trivial⟩ ⟨[(0,.v false [(.sl 5 [.int .u8],.ro)]),(1,.v false [(.sl 5 [.int .u8],.ro)]),(2,.v false [(.int .i64,.nil)]),(8,.v false [(.sl 5 [.int .u8],(.own 7000000))]),(9,.v false [(.sl 5 [.int .u8],(.own 7000001))]),(10,.v false [(.int .i64,.nil)])],[],[7000000,7000001]⟩ 7000000 [((.exit 0),⟨[(2,.v false [(.int .i64,.nil)]),(8,.v false [(.sl 5 [.int .u8],(.own 7000000))])],[],[7000000]⟩)] 6 Jj Tryz.func167 0
def Ath:Ao:=Am [g_0,g_7] (fun d=>(Agt d.1 d.2.1).val) fun r=>([rv g_0 r],[])
theorem A44:Fn Tryz.prog 122 .plain Ath:=mkF [(167,.plain,Atg)] ⟨A43,trivial⟩ Tryz.func122 0
def Ati:Ao:=Am [g_0] (fun d=>(Agu d.1).val) fun r=>([rv g_8 r],[])
theorem A45:Fn Tryz.prog 62 .plain Ati:=mkF [(98,.plain,Hc),(122,.plain,Ath)] ⟨Hv,A44,trivial⟩ Tryz.func62 0
def Atj:Ao:=Am [g_3] (fun d=>(Vf d.1).val) fun r=>([rv g_9 r],[])
theorem A46:Fn Tryz.prog 63 .plain Atj:=mkF [(53,.plain,Bm)] ⟨Bh,trivial⟩ Tryz.func63 0
def Alp:Ao:=Am [g_0] (fun d=>(P4 d.1).val) fun r=>([rv Aez r],[])
theorem Azu:Fn Tryz.prog 64 .plain Alp:=mkF [(65,.plain,C5)] ⟨Cy,trivial⟩ Tryz.func64 0
def A1b:Ao:=Am [Fs] (fun d=>(Agv d.1).val) fun r=>([rv Fs r.1,rv Aa1 r.2],[])
theorem Baj:Fn Tryz.prog 21 .plain A1b:=mkF [(60,.plain,Jd),(25,.plain,Hw),(61,.plain,A1a),(62,.plain,Ati),(63,.plain,Atj),(64,.plain,Alp),(65,.plain,C5)] ⟨K3,Ia,Bai,A45,A46,Azu,Cy,trivial⟩ Tryz.func21 0
def Acg:Ao:=Am [Fs] (fun d=>(Ach d.1).val) fun r=>([rv Fs r],[])
theorem Alq:Fn Tryz.prog 66 .plain Acg:=Ca [(123,.plain,Aa6),(47,.plain,Aby)] ⟨Aj1,Akz,trivial⟩ ⟨[(1,.box 1 0),(2,.box 2 0),(3,.box 3 0),(4,.v false [(.int .i64,.nil)])],[(1,[(.sl 22 [.sl 5 [.int .u8]],.ro),(.sl 5 [.int .u8],.ro),(.sl 5 [.int .u8],.ro),(.int .i64,.nil),(.int .i64,.nil),(.sl 40 B5,.ro),(.sl 147 h_2,.ro)]),(2,[(.sl 22 [.sl 5 [.int .u8]],(.own 4000000)),(.sl 5 [.int .u8],(.own 4000001)),(.sl 5 [.int .u8],(.own 4000002)),(.int .i64,.nil),(.int .i64,.nil),(.sl 40 B5,(.own 4000003)),(.sl 147 h_2,(.own 4000004))]),(3,[(.sl 22 [.sl 5 [.int .u8]],(.own 4000005)),(.sl 5 [.int .u8],(.own 4000006)),(.sl 5 [.int .u8],(.own 4000007)),(.int .i64,.nil),(.int .i64,.nil),(.sl 40 B5,(.own 4000008)),(.sl 147 h_2,(.own 4000009))])],[4000000,4000001,4000002,4000003,4000004,4000005,4000006,4000007,4000008,4000009]⟩ 4000000 [((.exit 0),⟨[(2,.box 2 0),(3,.box 3 0)],[(2,[(.sl 22 [.sl 5 [.int .u8]],(.own 4000000)),(.sl 5 [.int .u8],(.own 4000001)),(.sl 5 [.int .u8],(.own 4000002)),(.int .i64,.nil),(.int .i64,.nil),(.sl 40 B5,(.own 4000003)),(.sl 147 h_2,(.own 4000004))]),(3,[(.sl 22 [.sl 5 [.int .u8]],(.own 4000005)),(.sl 5 [.int .u8],(.own 4000006)),(.sl 5 [.int .u8],(.own 4000007)),(.int .i64,.nil),(.int .i64,.nil),(.sl 40 B5,(.own 4000008)),(.sl 147 h_2,(.own 4000009))])],[4000000,4000001,4000002,4000003,4000004,4000005,4000006,4000007,4000008,4000009]⟩)] 3 Ib Tryz.func66 0
def Ajm:Ao:=Am [g_0] (fun d=>(Un d.1).val) fun r=>([rv Aez r],[])
theorem Avu:Fn Tryz.prog 71 .plain Ajm:=mkF [] trivial Tryz.func71 0
def A1c:Ao:=Am [Fs] (fun d=>(Aqt d.1).val) fun r=>([rv Fs r.1,rv Aa1 r.2],[])
theorem Bak:Fn Tryz.prog 22 .plain A1c:=mkF [(66,.plain,Acg),(67,.plain,Pq),(68,.plain,Aqc),(69,.plain,U6),(70,.plain,U7),(71,.plain,Ajm)] ⟨Alq,Uc,Axb,Aa9,Aba,Avu,trivial⟩ Tryz.func22 0
def Ot:Ao:=Am [g_0,g_0] (fun d=>(Aqu d.1 d.2.1).val) fun r=>([rv g_1 r],[])
theorem O9:Fn Tryz.prog 30 .plain Ot:=mkF [] trivial Tryz.func30 0
def Alr:Ao:=Am [g_6,g_6] (fun d=>(W1 d.1 d.2.1).val) fun r=>([rv g_1 r],[])
theorem Azv:Fn Tryz.prog 221 .plain Alr:=Ca [] trivial ⟨[(0,.v false [(.sl 3 [.int .i64],.ro)]),(1,.v false [(.sl 3 [.int .i64],.ro)]),(5,.v false [(.int .i64,.nil)])],[],[]⟩ 5000000 [(.ret,⟨[(4,.v false [(.bool,.nil)])],[],[]⟩),((.exit 0),⟨[],[],[]⟩)] 4 Hn Tryz.func221 0
def Apa:Ao:=Am [Ky,Ky] (fun d=>(Aci d.1 d.2.1).val) fun r=>([rv g_1 r],[])
theorem A1d:Fn Tryz.prog 195 .plain Apa:=mkF [(221,.plain,Alr)] ⟨Azv,trivial⟩ Tryz.func195 0
def Atk:Ao:=Am [Kx,Kx] (fun d=>(Agw d.1 d.2.1).val) fun r=>([rv g_1 r],[])
theorem A47:Fn Tryz.prog 163 .plain Atk:=mkF [(30,.plain,Ot),(195,.plain,Apa)] ⟨O9,A1d,trivial⟩ Tryz.func163 0
def Als:Ao:=Am [J1,J1] (fun d=>(W2 d.1 d.2.1).val) fun r=>([rv g_1 r],[])
theorem Azw:Fn Tryz.prog 113 .plain Als:=mkF [(30,.plain,Ot),(163,.plain,Atk)] ⟨O9,A47,trivial⟩ Tryz.func113 0
def Ajn:Ao:=Am [Ht,Ht] (fun d=>(Uo d.1 d.2.1).val) fun r=>([rv g_1 r],[])
theorem Avv:Fn Tryz.prog 114 .plain Ajn:=Ca [(30,.plain,Ot)] ⟨O9,trivial⟩ ⟨[(2,.box 2 0),(3,.box 3 0),(5,.v false [(.int .i64,.nil)])],[(2,[(.int .i64,.nil),(.int .i64,.nil),(.sl 169 h_4,.ro)]),(3,[(.int .i64,.nil),(.int .i64,.nil),(.sl 169 h_4,.ro)])],[]⟩ 5000000 [(.ret,⟨[(4,.v false [(.bool,.nil)])],[],[]⟩),((.exit 0),⟨[],[],[]⟩)] 4 Gq Tryz.func114 0
def Alt:Ao:=Am [H1,H1] (fun d=>(W3 d.1 d.2.1).val) fun r=>([rv g_1 r],[])
theorem Azx:Fn Tryz.prog 57 .plain Alt:=mkF [(30,.plain,Ot),(113,.plain,Als),(114,.plain,Ajn)] ⟨O9,Azw,Avv,trivial⟩ Tryz.func57 0
def Apb:Ao:=Am [g_9,g_9] (fun d=>(Acj d.1 d.2.1).val) fun r=>([rv g_1 r],[])
theorem A1e:Fn Tryz.prog 17 .plain Apb:=Ca [(57,.plain,Alt)] ⟨Azx,trivial⟩ ⟨[(2,.box 2 0),(3,.box 3 0),(5,.v false [(.int .i64,.nil)])],[(2,[(.int .i64,.nil),(.sl 40 B5,.ro)]),(3,[(.int .i64,.nil),(.sl 40 B5,.ro)])],[]⟩ 5000000 [(.ret,⟨[(4,.v false [(.bool,.nil)])],[],[]⟩),((.exit 0),⟨[],[],[]⟩)] 4 Ic Tryz.func17 0
def Z8:Ao:=Am [Ng,Ng] (fun d=>(P5 d.1 d.2.1).val) fun r=>([rv g_1 r],[])
theorem Aqv:Fn Tryz.prog 72 .plain Z8:=Ca [] trivial ⟨[(0,.v false [(.sl 147 h_2,.ro)]),(1,.v false [(.sl 147 h_2,.ro)]),(5,.v false [(.int .i64,.nil)])],[],[]⟩ 5000000 [(.ret,⟨[(4,.v false [(.bool,.nil)])],[],[]⟩),((.exit 0),⟨[],[],[]⟩)] 4 Fq Tryz.func72 0
def Rm:Ao:=Am [Fs,Fs] (fun d=>(Rn d.1 d.2.1).val) fun r=>([rv g_1 r],[])
theorem Z9:Fn Tryz.prog 23 .plain Rm:=Ca [(30,.plain,Ot),(17,.plain,Apb),(72,.plain,Z8)] ⟨O9,A1e,Aqv,trivial⟩ ⟨[(2,.box 2 0),(3,.box 3 0),(5,.v false [(.int .i64,.nil)])],[(2,[(.sl 22 [.sl 5 [.int .u8]],.ro),(.sl 5 [.int .u8],.ro),(.sl 5 [.int .u8],.ro),(.int .i64,.nil),(.int .i64,.nil),(.sl 40 B5,.ro),(.sl 147 h_2,.ro)]),(3,[(.sl 22 [.sl 5 [.int .u8]],.ro),(.sl 5 [.int .u8],.ro),(.sl 5 [.int .u8],.ro),(.int .i64,.nil),(.int .i64,.nil),(.sl 40 B5,.ro),(.sl 147 h_2,.ro)])],[]⟩ 5000000 [(.ret,⟨[(4,.v false [(.bool,.nil)])],[],[]⟩),((.exit 0),⟨[],[],[]⟩)] 4 F2 Tryz.func23 0
def Alu:Ao:=Am [Aez,Aez] (fun d=>(W4 d.1 d.2.1).val) fun r=>([rv g_1 r],[])
theorem Azy:Fn Tryz.prog 73 .plain Alu:=mkF [(58,.plain,H8)] ⟨Je,trivial⟩ Tryz.func73 0
def Up:Ao:=Am [Aa1,Aa1] (fun d=>(Uq d.1 d.2.1).val) fun r=>([rv g_1 r],[])
theorem Aea:Fn Tryz.prog 24 .plain Up:=Ca [(73,.plain,Alu)] ⟨Azy,trivial⟩ ⟨[(0,.v false [(.sl 106 h_7,.ro)]),(1,.v false [(.sl 106 h_7,.ro)]),(5,.v false [(.int .i64,.nil)])],[],[]⟩ 5000000 [(.ret,⟨[(4,.v false [(.bool,.nil)])],[],[]⟩),((.exit 0),⟨[],[],[]⟩)] 4 Gr Tryz.func24 0
def Bal:Ao:=Am [g_0,g_3] (fun d=>(A1f d.1 d.2.1).val) fun r=>([rv g_3 r],[])
theorem Be2:Fn Tryz.prog 27 .plain Bal:=mkF [] trivial Tryz.func27 0
def A1g:Ao:=Am [g_3] (fun d=>(Aqw d.1).val) fun r=>([rv I3 r],[])
theorem Bam:Fn Tryz.prog 26 .plain A1g:=mkF [(53,.plain,Bm)] ⟨Bh,trivial⟩ Tryz.func26 0
def Apc:Ao:=Am [g_0,I3] (fun d=>(Ack d.1 d.2.1).val) fun r=>([rv g_0 r],[])
theorem A1h:Fn Tryz.prog 131 .plain Apc:=mkF [(80,.plain,J3),(65,.plain,C5),(132,.plain,Ll)] ⟨Kt,Cy,Lm,trivial⟩ Tryz.func131 0
def Alv:Ao:=Am [I3,g_3,g_0,g_0,g_3] (fun d=>(W5 d.1 d.2.1 d.2.2.1 d.2.2.2.1 d.2.2.2.2.1).val) fun r=>([rv g_0 r],[])
theorem Azz:Fn Tryz.prog 78 .plain Alv:=mkF [(80,.plain,J3),(53,.plain,Bm),(98,.plain,Hc),(131,.plain,Apc),(132,.plain,Ll),(130,.plain,G4)] ⟨Kt,Bh,Hv,A1h,Lm,Hd,trivial⟩ Tryz.func78 0
def Avw:Ao:=Am [g_0,g_0] (fun d=>(Avx d.1 d.2.1).val) fun r=>([rv g_0 r],[])
theorem A1i:Fn Tryz.prog 79 .plain Avw:=mkF [(133,.plain,W0),(65,.plain,C5)] ⟨Z7,Cy,trivial⟩ Tryz.func79 0
def Aqx:Ao:=Am [g_8,I3,g_3,g_0,g_0,g_3] (fun d=>(Aqy d.1 d.2.1 d.2.2.1 d.2.2.2.1 d.2.2.2.2.1 d.2.2.2.2.2.1).val) fun r=>([rv g_0 r],[])
theorem Axw:Fn Tryz.prog 28 .plain Aqx:=mkF [(78,.plain,Alv),(74,.plain,Z1),(79,.plain,Avw)] ⟨Azz,Af8,A1i,trivial⟩ Tryz.func28 0
def Vg:Ao:=Am [g_3] (fun d=>(Agx d.1).val) fun r=>([rv g_1 r],[])
theorem Acl:Fn Tryz.prog 134 .plain Vg:=mkF [(53,.plain,Bm)] ⟨Bh,trivial⟩ Tryz.func134 0
def Atl:Ao:=Am [g_3,g_3] (fun d=>(Agy d.1 d.2.1).val) fun r=>([rv g_1 r],[])
theorem A48:Fn Tryz.prog 135 .plain Atl:=mkF [] trivial Tryz.func135 0
def Ajo:Ao:=Am [Nh,Nh] (fun d=>(Ur d.1 d.2.1).val) fun r=>([rv g_1 r],[])
theorem Avy:Fn Tryz.prog 136 .plain Ajo:=mkF [(58,.plain,H8)] ⟨Je,trivial⟩ Tryz.func136 0
def Sr:Ao:=Am [Nh] (fun d=>(Acm d.1).val) fun r=>([rv g_1 r],[])
theorem W6:Fn Tryz.prog 81 .plain Sr:=mkF [(53,.plain,Bm),(98,.plain,Hc),(134,.plain,Vg),(135,.plain,Atl),(136,.plain,Ajo)] ⟨Bh,Hv,Acl,A48,Avy,trivial⟩ Tryz.func81 0
def Axx:Ao:=Am [g_3,g_3] (fun d=>(Alw d.1 d.2.1).val) fun r=>([rv g_1 r],[])
theorem A7x:Fn Tryz.prog 82 .plain Axx:=mkF [(53,.plain,Bm)] ⟨Bh,trivial⟩ Tryz.func82 0
def A1j:Ao:=Am [g_0,g_0] (fun d=>(Aqz d.1 d.2.1).val) fun r=>([rv g_3 r],[])
theorem Ban:Fn Tryz.prog 137 .plain A1j:=Ca [] trivial ⟨[(0,.v false [(.sl 5 [.int .u8],.ro)]),(1,.v false [(.sl 5 [.int .u8],.ro)]),(5,.v false [(.int .i64,.nil)]),(13,.v false [(.int .i64,.nil)]),(14,.v false [(.int .i64,.nil)])],[],[]⟩ 6000000 [((.exit 0),⟨[(5,.v false [(.int .i64,.nil)])],[],[]⟩)] 5 P6 Tryz.func137 0
def Apd:Ao:=Am [g_0,g_0] (fun d=>(Acn d.1 d.2.1).val) fun r=>([rv g_1 r],[])
theorem A1k:Fn Tryz.prog 83 .plain Apd:=mkF [(137,.plain,A1j)] ⟨Ban,trivial⟩ Tryz.func83 0
def Axy:Ao:=Am [g_8,g_3,I3,Nh] (fun d=>(Alx d.1 d.2.1 d.2.2.1 d.2.2.2.1).val) fun r=>([rv g_3 r],[])
theorem A7y:Fn Tryz.prog 29 .plain Axy:=mkF [(74,.plain,Z1),(53,.plain,Bm),(80,.plain,J3),(81,.plain,Sr),(82,.plain,Axx),(28,.plain,Aqx),(83,.plain,Apd)] ⟨Af8,Bh,Kt,W6,A7x,Axw,A1k,trivial⟩ Tryz.func29 0
def Ape:Ao:=Am [g_0,I3] (fun d=>(Aco d.1 d.2.1).val) fun r=>([rv g_0 r],[])
theorem A1l:Fn Tryz.prog 139 .plain Ape:=mkF [(138,.plain,Im),(140,.plain,Oq)] ⟨I5,O7,trivial⟩ Tryz.func139 0
def Aly:Ao:=Am [I3,g_3,g_0,g_0,g_3] (fun d=>(W7 d.1 d.2.1 d.2.2.1 d.2.2.2.1 d.2.2.2.2.1).val) fun r=>([rv g_0 r],[])
theorem Az0:Fn Tryz.prog 84 .plain Aly:=mkF [(138,.plain,Im),(56,.plain,Cb),(139,.plain,Ape),(140,.plain,Oq)] ⟨I5,Bx,A1l,O7,trivial⟩ Tryz.func84 0
def A1m:Ao:=Am [g_8,I3,g_3,g_0,g_0,g_3] (fun d=>(Aq0 d.1 d.2.1 d.2.2.1 d.2.2.2.1 d.2.2.2.2.1 d.2.2.2.2.2.1).val) fun r=>([rv g_0 r],[])
theorem Bao:Fn Tryz.prog 31 .plain A1m:=mkF [(84,.plain,Aly),(85,.plain,Aj7),(86,.plain,Avg)] ⟨Az0,Asf,A0s,trivial⟩ Tryz.func31 0
end
end Go.Proofs.YtfljmgnghlpapaaGreat

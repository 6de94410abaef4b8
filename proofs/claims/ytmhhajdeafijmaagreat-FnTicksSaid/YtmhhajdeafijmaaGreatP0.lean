/-
  That the functions of the seat answer what the terms of text W say; nothing is assumed.
-/
import Derived.Test.YtmhhajdeafijmaaGreatW
import Derived.Test.YtmhhajdeafijmaaGreatProg
import Derived.KernelRfl
namespace Go.Proofs.YtmhhajdeafijmaaGreat
open Go.RowKit
set_option linter.unusedVariables false
set_option maxRecDepth 100000
set_option maxHeartbeats 4000000
noncomputable section
abbrev h_0:List Sh:=[.int .i64,.int .i64,.bool,.int .u8]
abbrev h_1:List Sh:=[.bool,.int .i64,.int .i64,.int .i64]
abbrev h_2:List Sh:=[.sl 5 [.int .u8],.int .i64,.int .i64]
abbrev h_3:List Sh:=[.int .i64,.int .i64,.int .i64,.int .i64]
abbrev h_4:List Sh:=[.sl 3 [.int .i64],.sl 5 [.int .u8],.int .i64]
abbrev h_5:List Sh:=[.int .i64,.int .i64,.sl 5 [.int .u8],.int .i64]
abbrev h_6:List Sh:=[.int .i64,.sl 5 [.int .u8],.int .i64,.int .i64,.sl 3 [.int .i64]]
abbrev h_7:List Sh:=[.int .i64,.int .i64,.sl 86 h_5]
abbrev h_8:List Sh:=[.int .i64,.int .i64,.sl 342 h_5]
abbrev h_9:List Sh:=[.int .i64,.int .i64,.int .i64,.sl 5 [.int .u8],.sl 5 [.int .u8],.int .i64,.int .i64,.sl 5 [.int .u8],.sl 5 [.int .u8],.int .i64,.int .i64,.int .i64]
abbrev Axs:List Sh:=[.int .i64,.int .i64,.sl 5 [.int .u8],.sl 5 [.int .u8],.int .i64,.sl 5 [.int .u8],.sl 5 [.int .u8],.int .i64,.int .i64,.sl 5 [.int .u8],.sl 5 [.int .u8]]
abbrev Bdt:List Sh:=[.int .i64,.int .i64,.int .i64,.int .i64,.sl 5 [.int .u8],.sl 5 [.int .u8],.int .i64,.sl 5 [.int .u8],.sl 5 [.int .u8],.int .i64,.int .i64,.sl 5 [.int .u8],.sl 5 [.int .u8]]
abbrev Bbo:List Sh:=[.int .i64,.sl 5 [.int .u8],.int .i64,.sl 5 [.int .u8],.int .i64,.int .i64,.sl 3 [.int .i64],.int .i64,.sl 5 [.int .u8],.int .i64,.int .i64,.sl 3 [.int .i64],.bool,.int .i64,.sl 5 [.int .u8]]
abbrev Bdj:List Sh:=[.int .i64,.sl 5 [.int .u8],.sl 5 [.int .u8],.int .i64,.sl 5 [.int .u8],.int .i64,.sl 5 [.int .u8],.int .i64,.int .i64,.sl 3 [.int .i64],.int .i64,.sl 5 [.int .u8],.int .i64,.int .i64,.sl 3 [.int .i64],.bool,.int .i64,.sl 5 [.int .u8],.int .i64,.int .i64,.sl 86 h_5,.int .i64,.int .i64,.bool]
abbrev Bdk:List Sh:=[.int .i64,.sl 5 [.int .u8],.sl 5 [.int .u8],.int .i64,.sl 5 [.int .u8],.int .i64,.sl 5 [.int .u8],.int .i64,.int .i64,.sl 3 [.int .i64],.int .i64,.sl 5 [.int .u8],.int .i64,.int .i64,.sl 3 [.int .i64],.bool,.int .i64,.sl 5 [.int .u8],.int .i64,.int .i64,.sl 342 h_5,.int .i64,.int .i64,.bool]
abbrev Bdu:List Sh:=[.sl 23 [.sl 5 [.int .u8]],.sl 5 [.int .u8],.sl 5 [.int .u8],.int .i64,.int .i64,.sl 74 Bdj,.sl 230 h_3]
abbrev Bdv:List Sh:=[.sl 23 [.sl 5 [.int .u8]],.sl 5 [.int .u8],.sl 5 [.int .u8],.int .i64,.int .i64,.sl 301 Bdk,.sl 248 h_3]
abbrev Bbp:List Sh:=[.int .i64,.sl 5 [.int .u8],.int .i64,.int .i64,.int .i64,.sl 5 [.int .u8],.int .i64,.int .i64,.sl 5 [.int .u8],.sl 5 [.int .u8],.int .i64,.sl 5 [.int .u8],.sl 5 [.int .u8],.int .i64,.int .i64,.sl 5 [.int .u8],.sl 5 [.int .u8],.int .i64,.sl 5 [.int .u8],.int .i64,.sl 5 [.int .u8],.int .i64,.int .i64,.sl 3 [.int .i64],.int .i64,.sl 5 [.int .u8],.int .i64,.int .i64,.sl 3 [.int .i64],.bool,.int .i64,.sl 5 [.int .u8],.bool,.int .i64,.int .i64,.int .i64,.bool,.int .i64,.int .i64,.int .i64,.int .i64]
abbrev g_0:Bool×List Sh:=(false,[.sl 5 [.int .u8]])
abbrev g_1:Bool×List Sh:=(false,[.bool])
abbrev g_2:Bool×List Sh:=(true,h_2)
abbrev g_3:Bool×List Sh:=(false,[.int .i64])
abbrev g_4:Bool×List Sh:=(true,[.int .i64,.int .i64])
abbrev g_5:Bool×List Sh:=(true,Bbp)
abbrev g_6:Bool×List Sh:=(false,[.sl 3 [.int .i64]])
abbrev g_7:Bool×List Sh:=(true,Axs)
abbrev g_8:Bool×List Sh:=(true,[.int .i64,.sl 3 [.int .i64]])
abbrev g_9:Bool×List Sh:=(true,h_6)
abbrev Fo:Bool×List Sh:=(true,Bbo)
abbrev Xv:Bool×List Sh:=(true,h_1)
abbrev Apa:Bool×List Sh:=(false,[.sl 76 Axs])
abbrev Aj3:Bool×List Sh:=(false,[.sl 113 h_9])
abbrev Bbq:Bool×List Sh:=(false,[.str])
abbrev Apb:Bool×List Sh:=(true,h_9)
abbrev Bdl:Bool×List Sh:=(false,[.sl 23 [.sl 5 [.int .u8]]])
abbrev Axt:Bool×List Sh:=(true,h_4)
abbrev Bdm:Bool×List Sh:=(false,[.int .u8])
def tys:List (Nat×Ty):=[(3,⟨false,[.int .i64],[],false,[]⟩),
 (4,⟨false,[.bool],[],false,[]⟩),
 (5,⟨false,[.int .u8],[],false,[]⟩),
 (9,⟨false,[.str],[],false,[]⟩),
 (22,⟨false,[.sl 23 [.sl 5 [.int .u8]]],[],false,[]⟩),
 (23,⟨false,[.sl 5 [.int .u8]],[],false,[]⟩),
 (46,⟨false,[.sl 113 h_9],[],false,[]⟩),
 (50,⟨true,[.int .i64,.int .i64],[(0,1),(1,1)],true,[]⟩),
 (63,⟨false,[.sl 3 [.int .i64]],[],false,[]⟩),
 (65,⟨true,[.int .i64,.sl 3 [.int .i64]],[(0,1),(1,1)],false,[]⟩),
 (67,⟨true,h_6,[(0,1),(1,1),(2,1),(3,2)],false,[]⟩),
 (69,⟨true,Bbo,[(0,1),(1,1),(2,5),(7,5),(12,1),(13,1),(14,1)],false,[]⟩),
 (76,⟨true,Axs,[(0,1),(1,1),(2,1),(3,1),(4,1),(5,1),(6,1),(7,1),(8,1),(9,1),(10,1)],false,[]⟩),
 (92,⟨true,h_1,[(0,1),(1,1),(2,1),(3,1)],true,[]⟩),
 (94,⟨true,Bbp,[(0,1),(1,1),(2,2),(4,1),(5,1),(6,11),(17,15),(32,4),(36,4),(40,1)],false,[]⟩),
 (97,⟨false,[.sl 76 Axs],[],false,[]⟩),
 (113,⟨true,h_9,[(0,1),(1,1),(2,1),(3,1),(4,1),(5,1),(6,1),(7,1),(8,1),(9,2),(11,1)],false,[]⟩),
 (260,⟨true,h_2,[(0,1),(1,1),(2,1)],false,[]⟩),
 (308,⟨false,[.int .u64],[],false,[]⟩),
 (350,⟨true,h_4,[(0,1),(1,1),(2,1)],false,[]⟩)]
theorem Mo:A3w Tryz.prog tys=true:=by kernel_rfl
theorem Rr:Tryz.prog.follows .mixedOrders=true:=by kernel_rfl
abbrev E9 (C:Fns):Cfg:=⟨Aq8 tys,Rs C,Oq C,3,4⟩
theorem mkF {f:FuncId} {fn:Func} {kd:Kind} {ps:List (Bool×List Sh)} {R:Type} {T:Nx ps→Tree R} {rvs:R→List RV×List RV} (C:Fns) (hc:Nk Tryz.prog C) (hf:Tryz.prog.funcs[f]? =some fn) (np:Nat) (hn:(fn.name== "runtime.NumGoroutine")=false:=by kernel_rfl) (hb:fn.body.isSome=true:=by kernel_rfl) (hl:Bu (fn.body.getD .skip)=[]:=by kernel_rfl)
  (he: ∀d,Iu (E9 C) np (fun _ _=>.fail) fn kd (mkA ps d)=(T d).run fun r=>some (rvs r):=by intro d;kernel_rfl):Fn Tryz.prog f kd (Au ps (fun d=>(T d).val) rvs):=
 Wy (Ik Rr Mo hc) hf hn hb (fun cx b hp hbb=>by rw[hl]at hbb;cases hbb) he
abbrev lpq (r:Nat) (K:Sk) (z:Nat) (X:List (Ex×Sk)) (B:K.den→Option (K.den⊕Xw X)):H2:=fun i st=>cond (Nat.beq i r) (lam K z X B st) .fail
theorem Dw {f:FuncId} {fn:Func} {kd:Kind} {ps:List (Bool×List Sh)} {R:Type} {T:Nx ps→Tree R} {rvs:R→List RV×List RV} (C:Fns) (hc:Nk Tryz.prog C) (K:Sk) (z:Nat) (X:List (Ex×Sk)) (r:Nat) (B:K.den→Option (K.den⊕Xw X)) (hf:Tryz.prog.funcs[f]? =some fn) (np:Nat) (hn:(fn.name== "runtime.NumGoroutine")=false:=by kernel_rfl) (hb:fn.body.isSome=true:=by kernel_rfl) (h1:Bu (fn.body.getD .skip)=[Bc fn 0]:=by kernel_rfl) (h2:Bu (Bc fn 0)=[]:=by kernel_rfl)
  (hq:lpq r K z X B (Kz (Bc fn 0))=lam K z X B:=by kernel_rfl) (hl: ∀d,bod (E9 C) np fn.ntmps (lpq r K z X B) (Bc fn 0) K z X d=B d:=by intro d;kernel_rfl)
  (he: ∀d,Iu (E9 C) np (lpq r K z X B) fn kd (mkA ps d)=(T d).run fun r=>some (rvs r):=by intro d;kernel_rfl):Fn Tryz.prog f kd (Au ps (fun d=>(T d).val) rvs):=
 Wy (Ik Rr Mo hc) hf hn hb (fun cx b hp hbb=>En h1 ⟨Hb (Ik Rr Mo hc) hp (En h2 trivial) hq hl,trivial⟩ b hbb) he
def A2k:Av:=Au [g_0] (fun d=>(A2l d.1).val) fun r=>([rv g_1 r],[])
theorem A8e:Fn Tryz.prog 26 .plain A2k:=mkF [] trivial Tryz.func26 0
def Au9:Av:=Au [g_0] (fun d=>(Aj4 d.1).val) fun r=>([rv g_2 r],[])
theorem A3x:Fn Tryz.prog 124 .ret Au9:=Dw [] trivial ⟨[(0,.v false [(.sl 5 [.int .u8],.ro)]),(3,.v false [(.int .i64,.nil)]),(4,.v false [(.int .i64,.nil)])],[],[]⟩ 4000000 [((.exit 0),⟨[(0,.v false [(.sl 5 [.int .u8],.ro)]),(3,.v false [(.int .i64,.nil)])],[],[]⟩)] 3 Rt Tryz.func124 0
def Afx:Av:=Au [g_2] (fun d=>(Afy d.1).val) fun r=>([rv g_3 r.1],[rv g_2 r.2])
theorem Ann:Fn Tryz.prog 269 (.box [3] true true) Afx:=mkF [] trivial Tryz.func269 1
def Il:Av:=Au [g_2,g_3] (fun d=>(Acg d.1 d.2.1).val) fun r=>([rv g_3 r.1],[rv g_2 r.2])
theorem Iv:Fn Tryz.prog 175 (.box [3] true true) Il:=mkF [(269,(.box [3] true true),Afx)] ⟨Ann,trivial⟩ Tryz.func175 1
def Ru:Av:=Au [g_2,g_3] (fun d=>(Ach d.1 d.2.1).val) fun r=>([rv g_0 r.1],[rv g_2 r.2])
theorem Xx:Fn Tryz.prog 128 (.box [3] true true) Ru:=Dw [(269,(.box [3] true true),Afx)] ⟨Ann,trivial⟩ ⟨[(0,.box 0 0),(1,.v false [(.int .i64,.nil)]),(5,.v false [(.sl 5 [.int .u8],(.own 4000000))]),(6,.v false [(.int .i64,.nil)])],[(0,[(.sl 5 [.int .u8],(.pin 0)),(.int .i64,.nil),(.int .i64,.nil)])],[4000000]⟩ 4000000 [((.exit 0),⟨[(0,.box 0 0),(5,.v false [(.sl 5 [.int .u8],(.own 4000000))])],[(0,[(.sl 5 [.int .u8],(.pin 0)),(.int .i64,.nil),(.int .i64,.nil)])],[4000000]⟩)] 3 J4 Tryz.func128 1
def B8:Av:=Au [g_3,g_3,g_3] (fun d=>(Apc d.1 d.2.1 d.2.2.1).val) fun r=>([rv g_1 r],[])
theorem Bx:Fn Tryz.prog 66 .plain B8:=mkF [] trivial Tryz.func66 0
def Axu:Av:=Au [g_3] (fun d=>(Afz d.1).val) fun r=>([rv g_4 r],[])
theorem A52:Fn Tryz.prog 197 .plain Axu:=mkF [(66,.plain,B8)] ⟨Bx,trivial⟩ Tryz.func197 0
def Sm:Av:=Au [g_0] (fun d=>(Aj5 d.1).val) fun r=>([rv g_1 r],[])
theorem Wz:Fn Tryz.prog 180 .plain Sm:=mkF [(66,.plain,B8)] ⟨Bx,trivial⟩ Tryz.func180 0
def Af0:Av:=Au [g_4] (fun d=>(Af1 d.1).val) fun r=>([rv g_1 r],[])
theorem Ano:Fn Tryz.prog 67 .plain Af0:=mkF [(66,.plain,B8)] ⟨Bx,trivial⟩ Tryz.func67 0
def Ajc:Av:=Au [g_3,g_0,g_4] (fun d=>(Nl d.1 d.2.1 d.2.2.1).val) fun r=>([rv g_5 r],[])
theorem Ati:Fn Tryz.prog 286 .plain Ajc:=mkF [(66,.plain,B8),(180,.plain,Sm),(67,.plain,Af0)] ⟨Bx,Wz,Ano,trivial⟩ Tryz.func286 0
def So:Av:=Au [g_2,g_6] (fun d=>(Aj6 d.1 d.2.1).val) fun r=>([rv g_3 r.1],[rv g_2 r.2])
theorem W0:Fn Tryz.prog 127 (.box [3] true true) So:=mkF [(175,(.box [3] true true),Il)] ⟨Iv,trivial⟩ Tryz.func127 1
def W1:Av:=Au [g_7] (fun d=>(Af2 d.1).val) fun r=>([rv g_7 r],[])
theorem Aci:Fn Tryz.prog 296 .plain W1:=mkF [] trivial Tryz.func296 0
def Af3:Av:=Au [g_8] (fun d=>(Aq9 d.1).val) fun r=>([rv g_8 r],[])
theorem Anp:Fn Tryz.prog 389 .plain Af3:=mkF [] trivial Tryz.func389 0
def Ot:Av:=Au [g_9] (fun d=>(Af4 d.1).val) fun r=>([rv g_9 r],[])
theorem Rv:Fn Tryz.prog 358 .plain Ot:=mkF [(389,.plain,Af3)] ⟨Anp,trivial⟩ Tryz.func358 0
def Ava:Av:=Au [g_9,g_1] (fun d=>(Aj7 d.1 d.2.1).val) fun r=>([rv g_9 r],[])
theorem A3y:Fn Tryz.prog 359 .plain Ava:=mkF [(358,.plain,Ot)] ⟨Rv,trivial⟩ Tryz.func359 0
def Rw:Av:=Au [Fo] (fun d=>(Acj d.1).val) fun r=>([rv Fo r],[])
theorem Xy:Fn Tryz.prog 297 .plain Rw:=mkF [(358,.plain,Ot),(359,.plain,Ava)] ⟨Rv,A3y,trivial⟩ Tryz.func297 0
def Ack:Av:=Au [g_5] (fun d=>(Acl d.1).val) fun r=>([rv g_5 r],[])
theorem Aj8:Fn Tryz.prog 169 .plain Ack:=mkF [(296,.plain,W1),(297,.plain,Rw)] ⟨Aci,Xy,trivial⟩ Tryz.func169 0
def Acm:Av:=Au [Xv] (fun d=>(Acn d.1).val) fun r=>([rv g_1 r],[])
theorem Aj9:Fn Tryz.prog 181 .plain Acm:=mkF [(66,.plain,B8)] ⟨Bx,trivial⟩ Tryz.func181 0
def Aee:Av:=Au [g_7] (fun d=>(Qm d.1).val) fun r=>([rv g_1 r],[])
theorem Ara:Fn Tryz.prog 182 .plain Aee:=mkF [] trivial Tryz.func182 0
def Aco:Av:=Au [g_9] (fun d=>(Acp d.1).val) fun r=>([rv g_1 r],[])
theorem Aka:Fn Tryz.prog 305 .plain Aco:=mkF [] trivial Tryz.func305 0
def Ajd:Av:=Au [Fo] (fun d=>(Tn d.1).val) fun r=>([rv g_1 r],[])
theorem Atj:Fn Tryz.prog 183 .plain Ajd:=mkF [(305,.plain,Aco)] ⟨Aka,trivial⟩ Tryz.func183 0
def Akb:Av:=Au [g_8,g_3] (fun d=>(Akc d.1 d.2.1).val) fun r=>([rv g_1 r],[])
theorem Arb:Fn Tryz.prog 390 .plain Akb:=mkF [] trivial Tryz.func390 0
def Akd:Av:=Au [g_8] (fun d=>(Aba d.1).val) fun r=>([rv g_1 r],[])
def Sp:Fns:=[(66,.plain,B8),(390,.plain,Akb)]
theorem Ake:CfgOk Tryz.prog (E9 Sp):=Ik Rr Mo (show Nk Tryz.prog Sp from⟨Bx,Arb,trivial⟩)
def Akf:Sk:=⟨[(1,.box 1 0),(4,.v false [(.int .i64,.nil)])],[(1,[(.int .i64,.nil),(.sl 3 [.int .i64],.ro)])],[]⟩
def Akg:List (Ex×Sk):=[(.ret,⟨[(2,.v false [(.bool,.nil)])],[],[]⟩),((.exit 2),⟨[],[],[]⟩)]
def Anq:Sk:=⟨[(1,.box 1 0),(3,.v false [(.int .i64,.nil)])],[(1,[(.int .i64,.nil),(.sl 3 [.int .i64],.ro)])],[]⟩
def Anr:List (Ex×Sk):=[(.ret,⟨[(2,.v false [(.bool,.nil)])],[],[]⟩),((.exit 0),⟨[(1,.box 1 0)],[(1,[(.int .i64,.nil),(.sl 3 [.int .i64],.ro)])],[]⟩)]
def Sq:H2:=fun i st=>cond (Nat.beq i 4) (lam Anq 5000000 Anr Im st) <| cond (Nat.beq i 11) (lam Akf 12000000 Akg Gb st) <| .fail
theorem Axv (cx:Cx) (hp:cx.pin.length≤0):Fs Tryz.prog cx Tryz.f364.ntmps Sq (Bc Tryz.f364 0):=Hb Ake hp (En (by kernel_rfl:Bu (Bc Tryz.f364 0)=[]) trivial) (by kernel_rfl) (fun d=>(by kernel_rfl:bod (E9 Sp) 0 Tryz.f364.ntmps Sq (Bc Tryz.f364 0) Anq 5000000 Anr d=Im d))
theorem Awr (cx:Cx) (hp:cx.pin.length≤0):Fs Tryz.prog cx Tryz.f364.ntmps Sq (Bc Tryz.f364 1):=Hb Ake hp (En (by kernel_rfl:Bu (Bc Tryz.f364 1)=[]) trivial) (by kernel_rfl) (fun d=>(by kernel_rfl:bod (E9 Sp) 0 Tryz.f364.ntmps Sq (Bc Tryz.f364 1) Akf 12000000 Akg d=Gb d))
theorem Arc:Fn Tryz.prog 364 .plain Akd:=Wy Ake Tryz.func364 (by kernel_rfl) (by kernel_rfl) (fun cx b hp hb=>En (by kernel_rfl:Bu (Tryz.f364.body.getD .skip)=[Bc Tryz.f364 0,Bc Tryz.f364 1]) ⟨Axv cx hp,Awr cx hp,trivial⟩ b hb) (fun d=>(by kernel_rfl:Iu (E9 Sp) 0 Sq Tryz.f364 .plain (mkA [g_8] d)=(Aba d.1).run fun r=>some ([rv g_1 r],[])))
def Af5:Av:=Au [g_9] (fun d=>(Apd d.1).val) fun r=>([rv g_1 r],[])
theorem Akh:Fn Tryz.prog 306 .plain Af5:=mkF [(66,.plain,B8),(364,.plain,Akd)] ⟨Bx,Arc,trivial⟩ Tryz.func306 0
def Ou:Av:=Au [Fo] (fun d=>(Af6 d.1).val) fun r=>([rv g_1 r],[])
theorem Rx:Fn Tryz.prog 184 .plain Ou:=mkF [(66,.plain,B8),(306,.plain,Af5),(305,.plain,Aco)] ⟨Bx,Akh,Aka,trivial⟩ Tryz.func184 0
def Jo:Av:=Au [g_3] (fun d=>(Af7 d.1).val) fun r=>([rv g_1 r],[])
theorem Ke:Fn Tryz.prog 86 .plain Jo:=mkF [(66,.plain,B8)] ⟨Bx,trivial⟩ Tryz.func86 0
def W2:Av:=Au [g_3,g_3] (fun d=>(Af8 d.1 d.2.1).val) fun r=>([rv g_1 r],[])
theorem Acq:Fn Tryz.prog 307 .plain W2:=mkF [] trivial Tryz.func307 0
def Kf:Av:=Au [g_7] (fun d=>(Acr d.1).val) fun r=>([rv g_1 r],[])
theorem K0:Fn Tryz.prog 185 .plain Kf:=mkF [(86,.plain,Jo),(66,.plain,B8),(307,.plain,W2)] ⟨Ke,Bx,Acq,trivial⟩ Tryz.func185 0
def W3:Av:=Au [g_0,g_0] (fun d=>(Ard d.1 d.2.1).val) fun r=>([rv g_1 r],[])
theorem Acs:Fn Tryz.prog 84 .plain W3:=mkF [] trivial Tryz.func84 0
def Xz:Av:=Au [g_5] (fun d=>(X0 d.1).val) fun r=>([rv g_1 r],[])
theorem Aje:Fn Tryz.prog 50 .plain Xz:=mkF [(66,.plain,B8),(180,.plain,Sm),(67,.plain,Af0),(181,.plain,Acm),(182,.plain,Aee),(183,.plain,Ajd),(184,.plain,Ou),(185,.plain,Kf),(84,.plain,W3)] ⟨Bx,Wz,Ano,Aj9,Ara,Atj,Rx,K0,Acs,trivial⟩ Tryz.func50 0
def K1:Av:=Au [g_3] (fun d=>(Iw d.1).val) fun r=>([rv Xv r],[])
theorem Nm:Fn Tryz.prog 170 .plain K1:=mkF [(66,.plain,B8)] ⟨Bx,trivial⟩ Tryz.func170 0
def Ant:Av:=Au [g_5] (fun d=>(Ry d.1).val) fun r=>([rv g_7 r],[])
theorem Axw:Fn Tryz.prog 171 .plain Ant:=mkF [] trivial Tryz.func171 0
def Axx:Av:=Au [g_5,g_3,g_0] (fun d=>(Af9 d.1 d.2.1 d.2.2.1).val) fun r=>([rv g_5 r.1,rv Apa r.2.1,rv Aj3 r.2.2.1,rv g_3 r.2.2.2],[])
theorem A53:Fn Tryz.prog 45 .plain Axx:=mkF [(169,.plain,Ack),(50,.plain,Xz),(66,.plain,B8),(170,.plain,K1),(171,.plain,Ant)] ⟨Aj8,Aje,Bx,Nm,Axw,trivial⟩ Tryz.func45 0
def Aef:Av:=Au [Xv,g_3] (fun d=>(Hc d.1 d.2.1).val) fun r=>([rv g_1 r],[])
theorem Are:Fn Tryz.prog 355 .plain Aef:=mkF [(181,.plain,Acm),(66,.plain,B8)] ⟨Aj9,Bx,trivial⟩ Tryz.func355 0
def To:Av:=Au [Xv,g_3] (fun d=>(J5 d.1 d.2.1).val) fun r=>([rv Xv r.1,rv g_3 r.2],[])
theorem Aeg:Fn Tryz.prog 287 .plain To:=mkF [(355,.plain,Aef)] ⟨Are,trivial⟩ Tryz.func287 0
def Ajf:Av:=Au [g_2] (fun d=>(Nn d.1).val) fun r=>([rv g_7 r.1],[rv g_2 r.2])
theorem Atk:Fn Tryz.prog 173 (.box [3] true true) Ajf:=mkF [(128,(.box [3] true true),Ru),(175,(.box [3] true true),Il)] ⟨Xx,Iv,trivial⟩ Tryz.func173 1
def Ny:Av:=Au [g_0,g_3,g_3] (fun d=>(Ape d.1 d.2.1 d.2.2.1).val) fun r=>([rv g_0 r],[])
theorem Oa:Fn Tryz.prog 217 .plain Ny:=Dw [] trivial ⟨[(1,.v false [(.int .i64,.nil)]),(7,.v false [(.sl 5 [.int .u8],(.own 6000000))]),(8,.v false [(.int .i64,.nil)])],[],[6000000]⟩ 6000000 [((.exit 0),⟨[(7,.v false [(.sl 5 [.int .u8],(.own 6000000))])],[],[6000000]⟩)] 5 Ov Tryz.func217 0
def A2m:Av:=Au [g_3] (fun d=>(Atl d.1).val) fun r=>([rv g_0 r],[])
theorem A8f:Fn Tryz.prog 394 .plain A2m:=Dw [(217,.plain,Ny)] ⟨Oa,trivial⟩ ⟨[(0,.v false [(.int .i64,.nil)]),(3,.v false [(.sl 5 [.int .u8],(.own 5000000))])],[],[5000000]⟩ 5000000 [((.exit 0),⟨[(0,.v false [(.int .i64,.nil)]),(3,.v false [(.sl 5 [.int .u8],(.own 5000000))])],[],[5000000]⟩)] 4 Aki Tryz.func394 0
def Avb:Av:=Au [] (fun d=>(Avc).val) fun r=>([rv g_6 r],[])
theorem A3z:Fn Tryz.prog 395 .plain Avb:=mkF [] trivial Tryz.func395 0
def Anu:Av:=Au [g_6] (fun d=>(Acu d.1).val) fun r=>([rv g_1 r],[])
theorem Axy:Fn Tryz.prog 409 .plain Anu:=Dw [(66,.plain,B8)] ⟨Bx,trivial⟩ ⟨[(0,.v false [(.sl 3 [.int .i64],.ro)]),(3,.v false [(.int .i64,.nil)])],[],[]⟩ 3000000 [(.ret,⟨[(2,.v false [(.bool,.nil)])],[],[]⟩),((.exit 0),⟨[(0,.v false [(.sl 3 [.int .i64],.ro)])],[],[]⟩)] 2 J6 Tryz.func409 0
def A2n:Av:=Au [] (fun d=>(A2o).val) fun r=>([rv g_6 r],[])
theorem A8g:Fn Tryz.prog 410 .plain A2n:=mkF [] trivial Tryz.func410 0
def Axz:Av:=Au [g_0,g_3,g_3] (fun d=>(Apf d.1 d.2.1 d.2.2.1).val) fun r=>([rv g_3 r.1,rv g_3 r.2.1,rv g_1 r.2.2],[])
theorem A54:Fn Tryz.prog 210 .plain Axz:=Dw [] trivial ⟨[(0,.v false [(.sl 5 [.int .u8],.ro)]),(1,.v false [(.int .i64,.nil)]),(2,.v false [(.int .i64,.nil)]),(9,.v false [(.int .i64,.nil)]),(10,.v false [(.int .i64,.nil)])],[],[]⟩ 6000000 [((.exit 0),⟨[(1,.v false [(.int .i64,.nil)]),(2,.v false [(.int .i64,.nil)]),(9,.v false [(.int .i64,.nil)])],[],[]⟩)] 5 Lz Tryz.func210 0
def Atm:Av:=Au [g_3,g_3] (fun d=>(Atn d.1 d.2.1).val) fun r=>([rv g_3 r],[])
theorem Ax0:Fn Tryz.prog 412 .plain Atm:=mkF [] trivial Tryz.func412 0
def Akj:Av:=Au [g_0] (fun d=>(Ow d.1).val) fun r=>([rv g_6 r],[])
def K2:Fns:=[(210,.plain,Axz),(412,.plain,Atm)]
theorem X1:CfgOk Tryz.prog (E9 K2):=Ik Rr Mo (show Nk Tryz.prog K2 from⟨A54,Ax0,trivial⟩)
def Abb:Sk:=⟨[(3,.v false [(.sl 3 [.int .i64],(.own 11000000))]),(8,.v false [(.int .i64,.nil)])],[],[11000000]⟩
def Abc:List (Ex×Sk):=[((.exit 2),⟨[(3,.v false [(.sl 3 [.int .i64],(.own 11000000))])],[],[11000000]⟩)]
def Aeh:Sk:=⟨[(0,.v false [(.sl 5 [.int .u8],.ro)]),(3,.v false [(.sl 3 [.int .i64],(.own 6000000))]),(4,.v false [(.int .i64,.nil)])],[],[6000000]⟩
def Aei:List (Ex×Sk):=[((.exit 0),⟨[(3,.v false [(.sl 3 [.int .i64],(.own 6000000))])],[],[6000000]⟩)]
def K3:H2:=fun i st=>cond (Nat.beq i 5) (lam Aeh 6000000 Aei Hd st) <| cond (Nat.beq i 10) (lam Abb 11000000 Abc Ge st) <| .fail
theorem Arf (cx:Cx) (hp:cx.pin.length≤0):Fs Tryz.prog cx Tryz.f411.ntmps K3 (Bc Tryz.f411 0):=Hb X1 hp (En (by kernel_rfl:Bu (Bc Tryz.f411 0)=[]) trivial) (by kernel_rfl) (fun d=>(by kernel_rfl:bod (E9 K2) 0 Tryz.f411.ntmps K3 (Bc Tryz.f411 0) Aeh 6000000 Aei d=Hd d))
theorem Apg (cx:Cx) (hp:cx.pin.length≤0):Fs Tryz.prog cx Tryz.f411.ntmps K3 (Bc Tryz.f411 1):=Hb X1 hp (En (by kernel_rfl:Bu (Bc Tryz.f411 1)=[]) trivial) (by kernel_rfl) (fun d=>(by kernel_rfl:bod (E9 K2) 0 Tryz.f411.ntmps K3 (Bc Tryz.f411 1) Abb 11000000 Abc d=Ge d))
theorem Aws:Fn Tryz.prog 411 .plain Akj:=Wy X1 Tryz.func411 (by kernel_rfl) (by kernel_rfl) (fun cx b hp hb=>En (by kernel_rfl:Bu (Tryz.f411.body.getD .skip)=[Bc Tryz.f411 0,Bc Tryz.f411 1]) ⟨Arf cx hp,Apg cx hp,trivial⟩ b hb) (fun d=>(by kernel_rfl:Iu (E9 K2) 0 K3 Tryz.f411 .plain (mkA [g_0] d)=(Ow d.1).run fun r=>some ([rv g_6 r],[])))
def Akk:Av:=Au [g_6,g_0] (fun d=>(Ox d.1 d.2.1).val) fun r=>([rv g_6 r],[])
def K4:Fns:=[(409,.plain,Anu),(410,.plain,A2n),(411,.plain,Akj),(412,.plain,Atm)]
theorem X3:CfgOk Tryz.prog (E9 K4):=Ik Rr Mo (show Nk Tryz.prog K4 from⟨Axy,A8g,Aws,Ax0,trivial⟩)
def Abd:Sk:=⟨[(0,.v false [(.sl 3 [.int .i64],.ro)]),(5,.v false [(.sl 3 [.int .i64],(.own 23000000))]),(19,.v false [(.sl 3 [.int .i64],(.own 23000001))]),(20,.v false [(.int .i64,.nil)])],[],[23000000,23000001]⟩
def Abe:List (Ex×Sk):=[((.exit 2),⟨[(5,.v false [(.sl 3 [.int .i64],(.own 23000000))])],[],[23000000]⟩)]
def Aej:Sk:=⟨[(0,.v false [(.sl 3 [.int .i64],.ro)]),(5,.v false [(.sl 3 [.int .i64],(.own 9000000))]),(6,.v false [(.sl 3 [.int .i64],(.own 9000001))]),(7,.v false [(.sl 3 [.int .i64],(.own 9000002))]),(8,.v false [(.int .i64,.nil)]),(9,.v false [(.int .i64,.nil)]),(10,.v false [(.int .i64,.nil)]),(11,.v false [(.int .i64,.nil)]),(12,.v false [(.int .i64,.nil)]),(13,.v false [(.int .i64,.nil)]),(14,.v false [(.int .i64,.nil)]),(15,.v false [(.int .i64,.nil)]),(16,.v false [(.int .i64,.nil)])],[],[9000000,9000001,9000002]⟩
def Aek:List (Ex×Sk):=[((.exit 0),⟨[(0,.v false [(.sl 3 [.int .i64],.ro)]),(5,.v false [(.sl 3 [.int .i64],(.own 9000000))]),(8,.v false [(.int .i64,.nil)]),(9,.v false [(.int .i64,.nil)]),(10,.v false [(.int .i64,.nil)]),(11,.v false [(.int .i64,.nil)]),(12,.v false [(.int .i64,.nil)]),(13,.v false [(.int .i64,.nil)]),(14,.v false [(.int .i64,.nil)]),(15,.v false [(.int .i64,.nil)])],[],[9000000]⟩)]
def K5:H2:=fun i st=>cond (Nat.beq i 8) (lam Aej 9000000 Aek Fv st) <| cond (Nat.beq i 22) (lam Abd 23000000 Abe Fa st) <| .fail
theorem Arg (cx:Cx) (hp:cx.pin.length≤0):Fs Tryz.prog cx Tryz.f396.ntmps K5 (Bc Tryz.f396 0):=Hb X3 hp (En (by kernel_rfl:Bu (Bc Tryz.f396 0)=[]) trivial) (by kernel_rfl) (fun d=>(by kernel_rfl:bod (E9 K4) 0 Tryz.f396.ntmps K5 (Bc Tryz.f396 0) Aej 9000000 Aek d=Fv d))
theorem Aph (cx:Cx) (hp:cx.pin.length≤0):Fs Tryz.prog cx Tryz.f396.ntmps K5 (Bc Tryz.f396 1):=Hb X3 hp (En (by kernel_rfl:Bu (Bc Tryz.f396 1)=[]) trivial) (by kernel_rfl) (fun d=>(by kernel_rfl:bod (E9 K4) 0 Tryz.f396.ntmps K5 (Bc Tryz.f396 1) Abd 23000000 Abe d=Fa d))
theorem Awt:Fn Tryz.prog 396 .plain Akk:=Wy X3 Tryz.func396 (by kernel_rfl) (by kernel_rfl) (fun cx b hp hb=>En (by kernel_rfl:Bu (Tryz.f396.body.getD .skip)=[Bc Tryz.f396 0,Bc Tryz.f396 1]) ⟨Arg cx hp,Aph cx hp,trivial⟩ b hb) (fun d=>(by kernel_rfl:Iu (E9 K4) 0 K5 Tryz.f396 .plain (mkA [g_6,g_0] d)=(Ox d.1 d.2.1).run fun r=>some ([rv g_6 r],[])))
def Avd:Av:=Au [g_6] (fun d=>(Akl d.1).val) fun r=>([rv g_0 r],[])
theorem A30:Fn Tryz.prog 397 .plain Avd:=Dw [(217,.plain,Ny)] ⟨Oa,trivial⟩ ⟨[(0,.v false [(.sl 3 [.int .i64],.ro)]),(3,.v false [(.sl 5 [.int .u8],(.own 4000000))]),(4,.v false [(.int .i64,.nil)])],[],[4000000]⟩ 4000000 [((.exit 0),⟨[(3,.v false [(.sl 5 [.int .u8],(.own 4000000))])],[],[4000000]⟩)] 3 Kg Tryz.func397 0
def Ato:Av:=Au [g_0] (fun d=>(Atp d.1).val) fun r=>([rv g_0 r],[])
theorem Ax1:Fn Tryz.prog 371 .plain Ato:=Dw [(394,.plain,A2m),(395,.plain,Avb),(396,.plain,Akk),(397,.plain,Avd)] ⟨A8f,A3z,Awt,A30,trivial⟩ ⟨[(3,.v false [(.sl 5 [.int .u8],(.own 7000000))]),(4,.v false [(.sl 3 [.int .i64],(.own 7000001))]),(5,.v false [(.int .i64,.nil)])],[],[7000000,7000001]⟩ 7000000 [((.exit 0),⟨[(4,.v false [(.sl 3 [.int .i64],(.own 7000000))])],[],[7000000]⟩)] 6 Ob Tryz.func371 0
def Akm:Av:=Au [g_0] (fun d=>(X4 d.1).val) fun r=>([rv g_0 r],[])
theorem Awu:Fn Tryz.prog 370 .plain Akm:=Dw [(371,.plain,Ato)] ⟨Ax1,trivial⟩ ⟨[(3,.v false [(.sl 5 [.int .u8],(.own 7000000))])],[],[7000000]⟩ 7000000 [((.exit 0),⟨[(3,.v false [(.sl 5 [.int .u8],(.own 7000000))])],[],[7000000]⟩)] 6 L0 Tryz.func370 0
def X5:Av:=Au [g_0,g_0] (fun d=>(Api d.1 d.2.1).val) fun r=>([rv g_0 r],[])
theorem Abf:Fn Tryz.prog 319 .plain X5:=Dw [(370,.plain,Akm),(371,.plain,Ato)] ⟨Awu,Ax1,trivial⟩ ⟨[(1,.v false [(.sl 5 [.int .u8],.ro)]),(5,.v false [(.sl 5 [.int .u8],(.own 8000000))]),(6,.v false [(.sl 5 [.int .u8],(.own 8000001))]),(7,.v false [(.sl 5 [.int .u8],(.own 8000002))]),(8,.v false [(.int .i64,.nil)])],[],[8000000,8000001,8000002]⟩ 8000000 [((.exit 0),⟨[(1,.v false [(.sl 5 [.int .u8],.ro)]),(6,.v false [(.sl 5 [.int .u8],(.own 8000000))]),(7,.v false [(.sl 5 [.int .u8],(.own 8000001))])],[],[8000000,8000001]⟩)] 7 L3 Tryz.func319 0
def Acv:Av:=Au [g_0,g_0] (fun d=>(Rz d.1 d.2.1).val) fun r=>([rv g_0 r],[])
theorem Akn:Fn Tryz.prog 226 .plain Acv:=mkF [(319,.plain,X5)] ⟨Abf,trivial⟩ Tryz.func226 0
def Arh:Av:=Au [g_0,g_0,g_3] (fun d=>(Aga d.1 d.2.1 d.2.2.1).val) fun r=>([rv g_0 r.1,rv g_1 r.2],[])
theorem A07:Fn Tryz.prog 324 .plain Arh:=Dw [(66,.plain,B8),(319,.plain,X5)] ⟨Bx,Abf,trivial⟩ ⟨[(0,.v false [(.sl 5 [.int .u8],.ro)]),(1,.v false [(.sl 5 [.int .u8],.ro)]),(2,.v false [(.int .i64,.nil)]),(8,.v false [(.sl 5 [.int .u8],(.own 7000000))]),(9,.v false [(.sl 5 [.int .u8],(.own 7000001))]),(10,.v false [(.int .i64,.nil)])],[],[7000000,7000001]⟩ 7000000 [((.exit 0),⟨[(2,.v false [(.int .i64,.nil)]),(8,.v false [(.sl 5 [.int .u8],(.own 7000000))])],[],[7000000]⟩)] 6 Ix Tryz.func324 0
def Oy:Av:=Au [g_0,Bbq] (fun d=>(Agb d.1 d.2.1).val) fun r=>([rv g_0 r],[])
theorem R0:Fn Tryz.prog 225 .plain Oy:=mkF [(324,.plain,Arh)] ⟨A07,trivial⟩ Tryz.func225 0
def Tp:Av:=Au [g_0] (fun d=>(Tq d.1).val) fun r=>([rv g_0 r],[])
theorem Ael:Fn Tryz.prog 82 .plain Tp:=mkF [(180,.plain,Sm),(226,.plain,Acv),(225,.plain,Oy)] ⟨Wz,Akn,R0,trivial⟩ Tryz.func82 0
def Tr:Av:=Au [g_3,g_0,g_0,g_3,g_0] (fun d=>(Ts d.1 d.2.1 d.2.2.1 d.2.2.2.1 d.2.2.2.2.1).val) fun r=>([rv g_0 r],[])
theorem Aem:Fn Tryz.prog 83 .plain Tr:=mkF [(66,.plain,B8),(217,.plain,Ny)] ⟨Bx,Oa,trivial⟩ Tryz.func83 0
def Amz:Av:=Au [g_0,g_0] (fun d=>(Atq d.1 d.2.1).val) fun r=>([rv g_0 r],[])
theorem Apj:Fn Tryz.prog 215 .plain Amz:=mkF [(319,.plain,X5)] ⟨Abf,trivial⟩ Tryz.func215 0
def Ave:Av:=Au [g_0,g_3,g_0,g_0,g_3,g_0] (fun d=>(Ako d.1 d.2.1 d.2.2.1 d.2.2.2.1 d.2.2.2.2.1 d.2.2.2.2.2.1).val) fun r=>([rv g_0 r],[])
theorem A31:Fn Tryz.prog 220 .plain Ave:=mkF [(82,.plain,Tp),(83,.plain,Tr),(215,.plain,Amz)] ⟨Ael,Aem,Apj,trivial⟩ Tryz.func220 0
def Akp:Av:=Au [g_0,g_3,g_7] (fun d=>(X6 d.1 d.2.1 d.2.2.1).val) fun r=>([rv g_7 r.1,rv g_1 r.2],[])
theorem Awv:Fn Tryz.prog 263 .plain Akp:=mkF [(185,.plain,Kf),(220,.plain,Ave),(296,.plain,W1)] ⟨K0,A31,Aci,trivial⟩ Tryz.func263 0
def Anv:Av:=Au [g_0,g_0,g_0] (fun d=>(Acw d.1 d.2.1 d.2.2.1).val) fun r=>([rv g_0 r],[])
theorem Ax2:Fn Tryz.prog 322 .plain Anv:=mkF [(180,.plain,Sm),(226,.plain,Acv)] ⟨Wz,Akn,trivial⟩ Tryz.func322 0
def Akq:Av:=Au [g_0] (fun d=>(X7 d.1).val) fun r=>([rv g_0 r],[])
theorem Aww:Fn Tryz.prog 321 .plain Akq:=mkF [(225,.plain,Oy)] ⟨R0,trivial⟩ Tryz.func321 0
def Avf:Av:=Au [g_0,g_3] (fun d=>(Akr d.1 d.2.1).val) fun r=>([rv g_0 r],[])
theorem A32:Fn Tryz.prog 323 .plain Avf:=Dw [(66,.plain,B8),(225,.plain,Oy)] ⟨Bx,R0,trivial⟩ ⟨[(1,.v false [(.int .i64,.nil)]),(5,.v false [(.sl 5 [.int .u8],(.own 6000000))]),(6,.v false [(.int .i64,.nil)])],[],[6000000]⟩ 6000000 [((.exit 0),⟨[(5,.v false [(.sl 5 [.int .u8],(.own 6000000))])],[],[6000000]⟩)] 5 Kh Tryz.func323 0
def Aks:Av:=Au [g_0,g_0,g_0,g_3] (fun d=>(X8 d.1 d.2.1 d.2.2.1 d.2.2.2.1).val) fun r=>([rv g_0 r],[])
theorem Awx:Fn Tryz.prog 222 .plain Aks:=mkF [(322,.plain,Anv),(321,.plain,Akq),(323,.plain,Avf)] ⟨Ax2,Aww,A32,trivial⟩ Tryz.func222 0
def Agc:Av:=Au [] (fun d=>(Agd).val) fun r=>([rv g_8 r],[])
theorem Anw:Fn Tryz.prog 360 .plain Agc:=Dw [] trivial ⟨[(0,.box 0 0),(1,.box 1 0),(2,.v false [(.int .i64,.nil)])],[(0,[(.int .i64,.nil),(.sl 3 [.int .i64],(.own 4000000))]),(1,[(.int .i64,.nil),(.sl 3 [.int .i64],(.own 4000001))])],[4000000,4000001]⟩ 4000000 [((.exit 0),⟨[(0,.box 0 0),(1,.box 1 0)],[(0,[(.int .i64,.nil),(.sl 3 [.int .i64],(.own 4000000))]),(1,[(.int .i64,.nil),(.sl 3 [.int .i64],(.own 4000001))])],[4000000,4000001]⟩)] 3 Iy Tryz.func360 0
def Abg:Av:=Au [g_3,g_0] (fun d=>(Sr d.1 d.2.1).val) fun r=>([rv g_9 r],[])
theorem Age:Fn Tryz.prog 299 .plain Abg:=mkF [(66,.plain,B8),(360,.plain,Agc)] ⟨Bx,Anw,trivial⟩ Tryz.func299 0
def Acx:Av:=Au [g_3,g_0,g_0] (fun d=>(R1 d.1 d.2.1 d.2.2.1).val) fun r=>([rv Fo r],[])
theorem Akt:Fn Tryz.prog 221 .plain Acx:=mkF [(66,.plain,B8),(299,.plain,Abg)] ⟨Bx,Age,trivial⟩ Tryz.func221 0
def Apk:Av:=Au [g_0,g_0] (fun d=>(Apl d.1 d.2.1).val) fun r=>([rv Apb r],[])
theorem Avg:Fn Tryz.prog 74 .plain Apk:=mkF [] trivial Tryz.func74 0
def Oz:Av:=Au [g_3,g_0,g_3,g_3] (fun d=>(Agf d.1 d.2.1 d.2.2.1 d.2.2.2.1).val) fun r=>([rv g_0 r],[])
theorem R2:Fn Tryz.prog 312 .plain Oz:=mkF [(66,.plain,B8),(217,.plain,Ny)] ⟨Bx,Oa,trivial⟩ Tryz.func312 0
def Iz:Av:=Au [g_3,g_7] (fun d=>(X9 d.1 d.2.1).val) fun r=>([rv g_0 r],[])
theorem J7:Fn Tryz.prog 190 .plain Iz:=mkF [(66,.plain,B8),(185,.plain,Kf),(86,.plain,Jo),(312,.plain,Oz)] ⟨Bx,K0,Ke,R2,trivial⟩ Tryz.func190 0
def Anx:Av:=Au [g_3] (fun d=>(Acy d.1).val) fun r=>([rv g_3 r],[])
theorem Ax3:Fn Tryz.prog 391 .plain Anx:=mkF [] trivial Tryz.func391 0
def Agg:Av:=Au [g_8,g_3] (fun d=>(Agh d.1 d.2.1).val) fun r=>([rv g_1 r],[])
theorem Any:Fn Tryz.prog 365 .plain Agg:=mkF [(364,.plain,Akd),(66,.plain,B8),(391,.plain,Anx),(390,.plain,Akb)] ⟨Arc,Bx,Ax3,Arb,trivial⟩ Tryz.func365 0
def Ax4:Av:=Au [g_0,g_0] (fun d=>(Apm d.1 d.2.1).val) fun r=>([rv g_3 r],[])
theorem A55:Fn Tryz.prog 320 .plain Ax4:=Dw [] trivial ⟨[(0,.v false [(.sl 5 [.int .u8],.ro)]),(1,.v false [(.sl 5 [.int .u8],.ro)]),(5,.v false [(.int .i64,.nil)]),(6,.v false [(.int .i64,.nil)])],[],[]⟩ 6000000 [((.exit 0),⟨[(5,.v false [(.int .i64,.nil)])],[],[]⟩)] 5 O0 Tryz.func320 0
def Anz:Av:=Au [g_0,g_0] (fun d=>(Acz d.1 d.2.1).val) fun r=>([rv g_1 r],[])
theorem Ax5:Fn Tryz.prog 219 .plain Anz:=mkF [(320,.plain,Ax4)] ⟨A55,trivial⟩ Tryz.func219 0
def An0:Av:=Au [g_0,g_0,g_3] (fun d=>(Ac0 d.1 d.2.1 d.2.2.1).val) fun r=>([rv g_0 r],[])
theorem Ax6:Fn Tryz.prog 405 .plain An0:=mkF [(66,.plain,B8),(217,.plain,Ny),(319,.plain,X5)] ⟨Bx,Oa,Abf,trivial⟩ Tryz.func405 0
def Ari:Av:=Au [g_0,g_0,g_3] (fun d=>(Agi d.1 d.2.1 d.2.2.1).val) fun r=>([rv g_0 r],[])
theorem A08:Fn Tryz.prog 380 .plain Ari:=Dw [(66,.plain,B8),(405,.plain,An0)] ⟨Bx,Ax6,trivial⟩ ⟨[(0,.v false [(.sl 5 [.int .u8],.ro)]),(1,.v false [(.sl 5 [.int .u8],.ro)]),(2,.v false [(.int .i64,.nil)]),(7,.v false [(.sl 5 [.int .u8],(.own 6000000))]),(8,.v false [(.int .i64,.nil)])],[],[6000000]⟩ 6000000 [((.exit 0),⟨[(2,.v false [(.int .i64,.nil)]),(7,.v false [(.sl 5 [.int .u8],(.own 6000000))])],[],[6000000]⟩)] 5 I0 Tryz.func380 0
def Atr:Av:=Au [g_0,g_0,g_0] (fun d=>(Ats d.1 d.2.1 d.2.2.1).val) fun r=>([rv g_0 r],[])
theorem Ax7:Fn Tryz.prog 343 .plain Atr:=Dw [(380,.plain,Ari)] ⟨A08,trivial⟩ ⟨[(2,.v false [(.sl 5 [.int .u8],.ro)]),(7,.v false [(.sl 5 [.int .u8],(.own 7000000))]),(8,.v false [(.sl 5 [.int .u8],(.own 7000001))]),(9,.v false [(.int .i64,.nil)])],[],[7000000,7000001]⟩ 7000000 [((.exit 0),⟨[(7,.v false [(.sl 5 [.int .u8],(.own 7000000))])],[],[7000000]⟩)] 6 Oc Tryz.func343 0
def Arj:Av:=Au [g_0,g_3,g_7] (fun d=>(Agj d.1 d.2.1 d.2.2.1).val) fun r=>([rv g_0 r.1,rv g_1 r.2],[])
theorem A09:Fn Tryz.prog 366 .plain Arj:=mkF [(190,.plain,Iz),(215,.plain,Amz),(219,.plain,Anz),(312,.plain,Oz),(343,.plain,Atr)] ⟨J7,Apj,Ax5,R2,Ax7,trivial⟩ Tryz.func366 0
def Agk:Av:=Au [g_8,g_3] (fun d=>(Agl d.1 d.2.1).val) fun r=>([rv g_8 r.1,rv g_1 r.2],[])
theorem An1:Fn Tryz.prog 367 .plain Agk:=Dw [(389,.plain,Af3),(365,.plain,Agg)] ⟨Anp,Any,trivial⟩ ⟨[(1,.v false [(.int .i64,.nil)]),(2,.box 2 0),(4,.box 4 0),(6,.box 6 0),(7,.v false [(.int .i64,.nil)]),(8,.v false [(.int .i64,.nil)])],[(2,[(.int .i64,.nil),(.sl 3 [.int .i64],.ro)]),(4,[(.int .i64,.nil),(.sl 3 [.int .i64],(.own 7000000))]),(6,[(.int .i64,.nil),(.sl 3 [.int .i64],(.own 7000001))])],[7000000,7000001]⟩ 7000000 [((.exit 0),⟨[(1,.v false [(.int .i64,.nil)]),(2,.box 2 0),(4,.box 4 0),(6,.box 6 0)],[(2,[(.int .i64,.nil),(.sl 3 [.int .i64],.ro)]),(4,[(.int .i64,.nil),(.sl 3 [.int .i64],(.own 7000000))]),(6,[(.int .i64,.nil),(.sl 3 [.int .i64],(.own 7000001))])],[7000000,7000001]⟩)] 6 I1 Tryz.func367 0
def Ark:Av:=Au [g_9,g_3,g_7] (fun d=>(Agm d.1 d.2.1 d.2.2.1).val) fun r=>([rv g_9 r.1,rv g_0 r.2.1,rv g_3 r.2.2],[])
theorem A1a:Fn Tryz.prog 311 .plain Ark:=mkF [(358,.plain,Ot),(306,.plain,Af5),(190,.plain,Iz),(365,.plain,Agg),(366,.plain,Arj),(367,.plain,Agk)] ⟨Rv,Akh,J7,Any,A09,An1,trivial⟩ Tryz.func311 0
def Aku:Av:=Au [Fo,g_3,g_7] (fun d=>(K6 d.1 d.2.1 d.2.2.1).val) fun r=>([rv Fo r.1,rv g_0 r.2.1,rv g_3 r.2.2],[])
theorem Awy:Fn Tryz.prog 188 .plain Aku:=mkF [(297,.plain,Rw),(184,.plain,Ou),(66,.plain,B8),(185,.plain,Kf),(86,.plain,Jo),(84,.plain,W3),(311,.plain,Ark),(299,.plain,Abg)] ⟨Xy,Rx,Bx,K0,Ke,Acs,A1a,Age,trivial⟩ Tryz.func188 0
def Arl:Av:=Au [Fo,g_3] (fun d=>(Agn d.1 d.2.1).val) fun r=>([rv g_0 r.1,rv g_1 r.2],[])
theorem A1b:Fn Tryz.prog 189 .plain Arl:=mkF [(184,.plain,Ou)] ⟨Rx,trivial⟩ Tryz.func189 0
def Ax8:Av:=Au [g_0,g_0,g_0] (fun d=>(Apn d.1 d.2.1 d.2.2.1).val) fun r=>([rv Apb r],[])
theorem A56:Fn Tryz.prog 81 .plain Ax8:=mkF [] trivial Tryz.func81 0
def Apo:Av:=Au [g_0,g_3,g_0,g_3,g_3,g_3,g_0] (fun d=>(Ago d.1 d.2.1 d.2.2.1 d.2.2.2.1 d.2.2.2.2.1 d.2.2.2.2.2.1 d.2.2.2.2.2.2.1).val) fun r=>([rv g_7 r.1,rv g_1 r.2],[])
def Agp:Fns:=[(312,.plain,Oz),(86,.plain,Jo),(307,.plain,W2),(343,.plain,Atr),(190,.plain,Iz),(215,.plain,Amz)]
theorem Ax9:CfgOk Tryz.prog (E9 Agp):=Ik Rr Mo (show Nk Tryz.prog Agp from⟨R2,Ke,Acq,Ax7,J7,Apj,trivial⟩)
def Arm:Sk:=⟨[(0,.v false [(.sl 5 [.int .u8],.ro)]),(1,.v false [(.int .i64,.nil)]),(14,.box 14 0),(17,.box 17 0),(18,.v false [(.int .i64,.nil)])],[(14,[(.int .i64,.nil),(.int .i64,.nil),(.sl 5 [.int .u8],(.own 7000000)),(.sl 5 [.int .u8],(.own 7000001)),(.int .i64,.nil),(.sl 5 [.int .u8],(.own 7000002)),(.sl 5 [.int .u8],(.own 7000003)),(.int .i64,.nil),(.int .i64,.nil),(.sl 5 [.int .u8],(.own 7000004)),(.sl 5 [.int .u8],(.own 7000005))]),(17,[(.int .i64,.nil),(.int .i64,.nil),(.sl 5 [.int .u8],(.own 7000006)),(.sl 5 [.int .u8],(.own 7000007)),(.int .i64,.nil),(.sl 5 [.int .u8],(.own 7000008)),(.sl 5 [.int .u8],(.own 7000009)),(.int .i64,.nil),(.int .i64,.nil),(.sl 5 [.int .u8],(.own 7000010)),(.sl 5 [.int .u8],(.own 7000011))])],[7000000,7000001,7000002,7000003,7000004,7000005,7000006,7000007,7000008,7000009,7000010,7000011]⟩
def Arn:List (Ex×Sk):=[((.exit 0),⟨[(0,.v false [(.sl 5 [.int .u8],.ro)]),(1,.v false [(.int .i64,.nil)]),(14,.box 14 0),(17,.box 17 0)],[(14,[(.int .i64,.nil),(.int .i64,.nil),(.sl 5 [.int .u8],(.own 7000000)),(.sl 5 [.int .u8],(.own 7000001)),(.int .i64,.nil),(.sl 5 [.int .u8],(.own 7000002)),(.sl 5 [.int .u8],(.own 7000003)),(.int .i64,.nil),(.int .i64,.nil),(.sl 5 [.int .u8],(.own 7000004)),(.sl 5 [.int .u8],(.own 7000005))]),(17,[(.int .i64,.nil),(.int .i64,.nil),(.sl 5 [.int .u8],(.own 7000006)),(.sl 5 [.int .u8],(.own 7000007)),(.int .i64,.nil),(.sl 5 [.int .u8],(.own 7000008)),(.sl 5 [.int .u8],(.own 7000009)),(.int .i64,.nil),(.int .i64,.nil),(.sl 5 [.int .u8],(.own 7000010)),(.sl 5 [.int .u8],(.own 7000011))])],[7000000,7000001,7000002,7000003,7000004,7000005,7000006,7000007,7000008,7000009,7000010,7000011]⟩)]
def App:H2:=fun i st=>cond (Nat.beq i 6) (lam Arm 7000000 Arn Jp st) <| .fail
theorem A1c (cx:Cx) (hp:cx.pin.length≤0):Fs Tryz.prog cx Tryz.f266.ntmps App (Bc Tryz.f266 0):=Hb Ax9 hp (En (by kernel_rfl:Bu (Bc Tryz.f266 0)=[]) trivial) (by kernel_rfl) (fun d=>(by kernel_rfl:bod (E9 Agp) 0 Tryz.f266.ntmps App (Bc Tryz.f266 0) Arm 7000000 Arn d=Jp d))
theorem Avh:Fn Tryz.prog 266 .plain Apo:=Wy Ax9 Tryz.func266 (by kernel_rfl) (by kernel_rfl) (fun cx b hp hb=>En (by kernel_rfl:Bu (Tryz.f266.body.getD .skip)=[Bc Tryz.f266 0]) ⟨A1c cx hp,trivial⟩ b hb) (fun d=>(by kernel_rfl:Iu (E9 Agp) 0 App Tryz.f266 .plain (mkA [g_0,g_3,g_0,g_3,g_3,g_3,g_0] d)=(Ago d.1 d.2.1 d.2.2.1 d.2.2.2.1 d.2.2.2.2.1 d.2.2.2.2.2.1 d.2.2.2.2.2.2.1).run fun r=>some ([rv g_7 r.1,rv g_1 r.2],[])))
def Aro:Av:=Au [g_9,g_3,g_0,g_3,g_0] (fun d=>(Agq d.1 d.2.1 d.2.2.1 d.2.2.2.1 d.2.2.2.2.1).val) fun r=>([rv g_9 r.1,rv g_7 r.2.1,rv g_3 r.2.2],[])
theorem A1d:Fn Tryz.prog 317 .plain Aro:=mkF [(358,.plain,Ot),(306,.plain,Af5),(312,.plain,Oz),(86,.plain,Jo),(307,.plain,W2),(266,.plain,Apo)] ⟨Rv,Akh,R2,Ke,Acq,Avh,trivial⟩ Tryz.func317 0
def Akv:Av:=Au [Fo,g_3,g_0] (fun d=>(Za d.1 d.2.1 d.2.2.1).val) fun r=>([rv Fo r.1,rv g_7 r.2.1,rv g_3 r.2.2],[])
theorem Awz:Fn Tryz.prog 196 .plain Akv:=mkF [(297,.plain,Rw),(184,.plain,Ou),(317,.plain,Aro)] ⟨Xy,Rx,A1d,trivial⟩ Tryz.func196 0
def An2:Av:=Au [Fo,g_7] (fun d=>(Ac1 d.1 d.2.1).val) fun r=>([rv Apb r],[])
theorem Aya:Fn Tryz.prog 194 .plain An2:=mkF [(190,.plain,Iz),(74,.plain,Apk)] ⟨J7,Avg,trivial⟩ Tryz.func194 0
def Aen:Av:=Au [g_5,g_3,g_7] (fun d=>(Qn d.1 d.2.1 d.2.2.1).val) fun r=>([rv g_5 r.1,rv Apa r.2.1,rv Aj3 r.2.2],[])
theorem Arp:Fn Tryz.prog 288 .plain Aen:=mkF [(169,.plain,Ack),(50,.plain,Xz),(66,.plain,B8),(185,.plain,Kf),(84,.plain,W3),(263,.plain,Akp),(222,.plain,Aks),(221,.plain,Acx),(170,.plain,K1),(82,.plain,Tp),(83,.plain,Tr),(74,.plain,Apk),(296,.plain,W1),(86,.plain,Jo),(188,.plain,Aku),(189,.plain,Arl),(190,.plain,Iz),(81,.plain,Ax8),(196,.plain,Akv),(194,.plain,An2)] ⟨Aj8,Aje,Bx,K0,Acs,Awv,Awx,Akt,Nm,Ael,Aem,Avg,Aci,Ke,Awy,A1b,J7,A56,Awz,Aya,trivial⟩ Tryz.func288 0
def Ajg:Av:=Au [g_3] (fun d=>(Tt d.1).val) fun r=>([rv g_0 r],[])
theorem Att:Fn Tryz.prog 267 .plain Ajg:=mkF [(66,.plain,B8),(217,.plain,Ny)] ⟨Bx,Oa,trivial⟩ Tryz.func267 0
def W4:Av:=Au [g_2,g_3] (fun d=>(Agr d.1 d.2.1).val) fun r=>([rv g_1 r.1],[rv g_2 r.2])
theorem Ac2:Fn Tryz.prog 167 (.box [3] true true) W4:=mkF [(175,(.box [3] true true),Il)] ⟨Iv,trivial⟩ Tryz.func167 1
def Arq:Av:=Au [g_2,g_3] (fun d=>(Ags d.1 d.2.1).val) fun r=>([rv g_6 r.1],[rv g_2 r.2])
theorem A1e:Fn Tryz.prog 379 (.box [3] true true) Arq:=Dw [(127,(.box [3] true true),So),(175,(.box [3] true true),Il),(167,(.box [3] true true),W4)] ⟨W0,Iv,Ac2,trivial⟩ ⟨[(0,.box 0 0),(5,.v false [(.sl 3 [.int .i64],(.own 5000000))]),(6,.v false [(.int .i64,.nil)]),(7,.v false [(.int .i64,.nil)])],[(0,[(.sl 5 [.int .u8],(.pin 0)),(.int .i64,.nil),(.int .i64,.nil)])],[5000000]⟩ 5000000 [((.exit 0),⟨[(0,.box 0 0),(5,.v false [(.sl 3 [.int .i64],(.own 5000000))])],[(0,[(.sl 5 [.int .u8],(.pin 0)),(.int .i64,.nil),(.int .i64,.nil)])],[5000000]⟩)] 4 O5 Tryz.func379 1
def Avi:Av:=Au [g_6] (fun d=>(Abh d.1).val) fun r=>([rv g_8 r],[])
theorem A33:Fn Tryz.prog 378 .plain Avi:=Dw [(360,.plain,Agc),(367,.plain,Agk)] ⟨Anw,An1,trivial⟩ ⟨[(0,.v false [(.sl 3 [.int .i64],.ro)]),(2,.box 2 0),(3,.box 3 0),(4,.v false [(.int .i64,.nil)])],[(2,[(.int .i64,.nil),(.sl 3 [.int .i64],(.own 4000000))]),(3,[(.int .i64,.nil),(.sl 3 [.int .i64],(.own 4000001))])],[4000000,4000001]⟩ 4000000 [((.exit 0),⟨[(2,.box 2 0),(3,.box 3 0)],[(2,[(.int .i64,.nil),(.sl 3 [.int .i64],(.own 4000000))]),(3,[(.int .i64,.nil),(.sl 3 [.int .i64],(.own 4000001))])],[4000000,4000001]⟩)] 3 Mp Tryz.func378 0
def Arr:Av:=Au [g_2] (fun d=>(W5 d.1).val) fun r=>([rv g_8 r.1],[rv g_2 r.2])
theorem A1f:Fn Tryz.prog 342 (.box [3] true true) Arr:=mkF [(379,(.box [3] true true),Arq),(378,.plain,Avi)] ⟨A1e,A33,trivial⟩ Tryz.func342 1
def An3:Av:=Au [g_2,g_3] (fun d=>(R3 d.1 d.2.1).val) fun r=>([rv Fo r.1],[rv g_2 r.2])
theorem Ayb:Fn Tryz.prog 264 (.box [3] true true) An3:=mkF [(128,(.box [3] true true),Ru),(221,.plain,Acx),(127,(.box [3] true true),So),(167,(.box [3] true true),W4),(342,(.box [3] true true),Arr),(225,.plain,Oy),(299,.plain,Abg)] ⟨Xx,Akt,W0,Ac2,A1f,R0,Age,trivial⟩ Tryz.func264 1
def An4:Av:=Au [g_2,g_3] (fun d=>(R4 d.1 d.2.1).val) fun r=>([rv Xv r.1],[rv g_2 r.2])
theorem Ayc:Fn Tryz.prog 289 (.box [3] true true) An4:=Dw [(170,.plain,K1),(175,(.box [3] true true),Il),(287,.plain,To)] ⟨Nm,Iv,Aeg,trivial⟩ ⟨[(0,.box 0 0),(4,.box 4 0),(5,.box 5 0),(6,.v false [(.int .i64,.nil)])],[(0,[(.sl 5 [.int .u8],(.pin 0)),(.int .i64,.nil),(.int .i64,.nil)]),(4,[(.bool,.nil),(.int .i64,.nil),(.int .i64,.nil),(.int .i64,.nil)]),(5,[(.bool,.nil),(.int .i64,.nil),(.int .i64,.nil),(.int .i64,.nil)])],[]⟩ 4000000 [((.exit 0),⟨[(0,.box 0 0),(4,.box 4 0),(5,.box 5 0)],[(0,[(.sl 5 [.int .u8],(.pin 0)),(.int .i64,.nil),(.int .i64,.nil)]),(4,[(.bool,.nil),(.int .i64,.nil),(.int .i64,.nil),(.int .i64,.nil)]),(5,[(.bool,.nil),(.int .i64,.nil),(.int .i64,.nil),(.int .i64,.nil)])],[]⟩)] 3 Hw Tryz.func289 1
def An5:Av:=Au [g_2] (fun d=>(Mq d.1).val) fun r=>([rv g_5 r.1],[rv g_2 r.2])
def R5:Fns:=[(175,(.box [3] true true),Il),(128,(.box [3] true true),Ru),(197,.plain,Axu),(286,.plain,Ajc),(127,(.box [3] true true),So),(45,.plain,Axx),(287,.plain,To),(173,(.box [3] true true),Ajf),(288,.plain,Aen),(170,.plain,K1),(267,.plain,Ajg),(266,.plain,Apo),(167,(.box [3] true true),W4),(264,(.box [3] true true),An3),(289,(.box [3] true true),An4)]
theorem An6:CfgOk Tryz.prog (E9 R5):=Ik Rr Mo (show Nk Tryz.prog R5 from⟨Iv,Xx,A52,Ati,W0,A53,Aeg,Atk,Arp,Nm,Att,Avh,Ac2,Ayb,Ayc,trivial⟩)
def Aeo:Sk:=⟨[(0,.box 0 0),(2,.box 2 0),(3,.box 3 0),(5,.v false [(.int .i64,.nil)]),(7,.v false [(.int .i64,.nil)])],[(0,[(.sl 5 [.int .u8],(.pin 0)),(.int .i64,.nil),(.int .i64,.nil)]),(2,[(.int .i64,.nil),(.sl 5 [.int .u8],(.own 16000000)),(.int .i64,.nil),(.int .i64,.nil),(.int .i64,.nil),(.sl 5 [.int .u8],(.own 16000001)),(.int .i64,.nil),(.int .i64,.nil),(.sl 5 [.int .u8],(.own 16000002)),(.sl 5 [.int .u8],(.own 16000003)),(.int .i64,.nil),(.sl 5 [.int .u8],(.own 16000004)),(.sl 5 [.int .u8],(.own 16000005)),(.int .i64,.nil),(.int .i64,.nil),(.sl 5 [.int .u8],(.own 16000006)),(.sl 5 [.int .u8],(.own 16000007)),(.int .i64,.nil),(.sl 5 [.int .u8],(.own 16000008)),(.int .i64,.nil),(.sl 5 [.int .u8],(.own 16000009)),(.int .i64,.nil),(.int .i64,.nil),(.sl 3 [.int .i64],(.own 16000010)),(.int .i64,.nil),(.sl 5 [.int .u8],(.own 16000011)),(.int .i64,.nil),(.int .i64,.nil),(.sl 3 [.int .i64],(.own 16000012)),(.bool,.nil),(.int .i64,.nil),(.sl 5 [.int .u8],(.own 16000013)),(.bool,.nil),(.int .i64,.nil),(.int .i64,.nil),(.int .i64,.nil),(.bool,.nil),(.int .i64,.nil),(.int .i64,.nil),(.int .i64,.nil),(.int .i64,.nil)]),(3,[(.int .i64,.nil),(.sl 5 [.int .u8],(.own 16000014)),(.int .i64,.nil),(.int .i64,.nil),(.int .i64,.nil),(.sl 5 [.int .u8],(.own 16000015)),(.int .i64,.nil),(.int .i64,.nil),(.sl 5 [.int .u8],(.own 16000016)),(.sl 5 [.int .u8],(.own 16000017)),(.int .i64,.nil),(.sl 5 [.int .u8],(.own 16000018)),(.sl 5 [.int .u8],(.own 16000019)),(.int .i64,.nil),(.int .i64,.nil),(.sl 5 [.int .u8],(.own 16000020)),(.sl 5 [.int .u8],(.own 16000021)),(.int .i64,.nil),(.sl 5 [.int .u8],(.own 16000022)),(.int .i64,.nil),(.sl 5 [.int .u8],(.own 16000023)),(.int .i64,.nil),(.int .i64,.nil),(.sl 3 [.int .i64],(.own 16000024)),(.int .i64,.nil),(.sl 5 [.int .u8],(.own 16000025)),(.int .i64,.nil),(.int .i64,.nil),(.sl 3 [.int .i64],(.own 16000026)),(.bool,.nil),(.int .i64,.nil),(.sl 5 [.int .u8],(.own 16000027)),(.bool,.nil),(.int .i64,.nil),(.int .i64,.nil),(.int .i64,.nil),(.bool,.nil),(.int .i64,.nil),(.int .i64,.nil),(.int .i64,.nil),(.int .i64,.nil)])],[16000000,16000001,16000002,16000003,16000004,16000005,16000006,16000007,16000008,16000009,16000010,16000011,16000012,16000013,16000014,16000015,16000016,16000017,16000018,16000019,16000020,16000021,16000022,16000023,16000024,16000025,16000026,16000027]⟩
def Aep:List (Ex×Sk):=[((.exit 0),⟨[(0,.box 0 0),(2,.box 2 0),(3,.box 3 0),(5,.v false [(.int .i64,.nil)])],[(0,[(.sl 5 [.int .u8],(.pin 0)),(.int .i64,.nil),(.int .i64,.nil)]),(2,[(.int .i64,.nil),(.sl 5 [.int .u8],(.own 16000000)),(.int .i64,.nil),(.int .i64,.nil),(.int .i64,.nil),(.sl 5 [.int .u8],(.own 16000001)),(.int .i64,.nil),(.int .i64,.nil),(.sl 5 [.int .u8],(.own 16000002)),(.sl 5 [.int .u8],(.own 16000003)),(.int .i64,.nil),(.sl 5 [.int .u8],(.own 16000004)),(.sl 5 [.int .u8],(.own 16000005)),(.int .i64,.nil),(.int .i64,.nil),(.sl 5 [.int .u8],(.own 16000006)),(.sl 5 [.int .u8],(.own 16000007)),(.int .i64,.nil),(.sl 5 [.int .u8],(.own 16000008)),(.int .i64,.nil),(.sl 5 [.int .u8],(.own 16000009)),(.int .i64,.nil),(.int .i64,.nil),(.sl 3 [.int .i64],(.own 16000010)),(.int .i64,.nil),(.sl 5 [.int .u8],(.own 16000011)),(.int .i64,.nil),(.int .i64,.nil),(.sl 3 [.int .i64],(.own 16000012)),(.bool,.nil),(.int .i64,.nil),(.sl 5 [.int .u8],(.own 16000013)),(.bool,.nil),(.int .i64,.nil),(.int .i64,.nil),(.int .i64,.nil),(.bool,.nil),(.int .i64,.nil),(.int .i64,.nil),(.int .i64,.nil),(.int .i64,.nil)]),(3,[(.int .i64,.nil),(.sl 5 [.int .u8],(.own 16000014)),(.int .i64,.nil),(.int .i64,.nil),(.int .i64,.nil),(.sl 5 [.int .u8],(.own 16000015)),(.int .i64,.nil),(.int .i64,.nil),(.sl 5 [.int .u8],(.own 16000016)),(.sl 5 [.int .u8],(.own 16000017)),(.int .i64,.nil),(.sl 5 [.int .u8],(.own 16000018)),(.sl 5 [.int .u8],(.own 16000019)),(.int .i64,.nil),(.int .i64,.nil),(.sl 5 [.int .u8],(.own 16000020)),(.sl 5 [.int .u8],(.own 16000021)),(.int .i64,.nil),(.sl 5 [.int .u8],(.own 16000022)),(.int .i64,.nil),(.sl 5 [.int .u8],(.own 16000023)),(.int .i64,.nil),(.int .i64,.nil),(.sl 3 [.int .i64],(.own 16000024)),(.int .i64,.nil),(.sl 5 [.int .u8],(.own 16000025)),(.int .i64,.nil),(.int .i64,.nil),(.sl 3 [.int .i64],(.own 16000026)),(.bool,.nil),(.int .i64,.nil),(.sl 5 [.int .u8],(.own 16000027)),(.bool,.nil),(.int .i64,.nil),(.int .i64,.nil),(.int .i64,.nil),(.bool,.nil),(.int .i64,.nil),(.int .i64,.nil),(.int .i64,.nil),(.int .i64,.nil)])],[16000000,16000001,16000002,16000003,16000004,16000005,16000006,16000007,16000008,16000009,16000010,16000011,16000012,16000013,16000014,16000015,16000016,16000017,16000018,16000019,16000020,16000021,16000022,16000023,16000024,16000025,16000026,16000027]⟩)]
def Ac3:H2:=fun i st=>cond (Nat.beq i 15) (lam Aeo 16000000 Aep Cm st) <| .fail
theorem Ars (cx:Cx) (hp:cx.pin.length≤1):Fs Tryz.prog cx Tryz.f151.ntmps Ac3 (Bc Tryz.f151 0):=Hb An6 hp (En (by kernel_rfl:Bu (Bc Tryz.f151 0)=[]) trivial) (by kernel_rfl) (fun d=>(by kernel_rfl:bod (E9 R5) 1 Tryz.f151.ntmps Ac3 (Bc Tryz.f151 0) Aeo 16000000 Aep d=Cm d))
theorem Ayd:Fn Tryz.prog 151 (.box [3] true true) An5:=Wy An6 Tryz.func151 (by kernel_rfl) (by kernel_rfl) (fun cx b hp hb=>En (by kernel_rfl:Bu (Tryz.f151.body.getD .skip)=[Bc Tryz.f151 0]) ⟨Ars cx hp,trivial⟩ b hb) (fun d=>(by kernel_rfl:Iu (E9 R5) 1 Ac3 Tryz.f151 (.box [3] true true) (mkA [g_2] d)=(Mq d.1).run fun r=>some ([rv g_5 r.1],[rv g_2 r.2])))
def Aeq:Av:=Au [g_0] (fun d=>(Qo d.1).val) fun r=>([rv g_5 r.1,rv g_3 r.2],[])
theorem Art:Fn Tryz.prog 35 .plain Aeq:=mkF [(124,.ret,Au9),(151,(.box [3] true true),An5),(127,(.box [3] true true),So)] ⟨A3x,Ayd,W0,trivial⟩ Tryz.func35 0
def Dj:Av:=Au [g_0] (fun d=>(Akw d.1).val) fun r=>([rv g_0 r],[])
theorem Da:Fn Tryz.prog 134 .plain Dj:=mkF [] trivial Tryz.func134 0
def Tu:Av:=Au [g_7] (fun d=>(Tv d.1).val) fun r=>([rv g_7 r],[])
theorem Aer:Fn Tryz.prog 157 .plain Tu:=mkF [(134,.plain,Dj)] ⟨Da,trivial⟩ Tryz.func157 0
def An7:Av:=Au [g_8] (fun d=>(Ac4 d.1).val) fun r=>([rv g_8 r],[])
theorem Aye:Fn Tryz.prog 381 .plain An7:=mkF [] trivial Tryz.func381 0
def Agt:Av:=Au [g_9] (fun d=>(Agu d.1).val) fun r=>([rv g_9 r],[])
theorem An8:Fn Tryz.prog 346 .plain Agt:=mkF [(134,.plain,Dj),(381,.plain,An7)] ⟨Da,Aye,trivial⟩ Tryz.func346 0
def I2:Av:=Au [Fo] (fun d=>(Zb d.1).val) fun r=>([rv Fo r],[])
theorem J8:Fn Tryz.prog 270 .plain I2:=mkF [(134,.plain,Dj),(346,.plain,Agt)] ⟨Da,An8,trivial⟩ Tryz.func270 0
def He:Av:=Au [g_5] (fun d=>(Qp d.1).val) fun r=>([rv g_5 r],[])
theorem H3:Fn Tryz.prog 152 .plain He:=mkF [(134,.plain,Dj),(157,.plain,Tu),(270,.plain,I2)] ⟨Da,Aer,J8,trivial⟩ Tryz.func152 0
def By:Av:=Au [g_3,g_3,g_3] (fun d=>(Agv d.1 d.2.1 d.2.2.1).val) fun r=>([rv g_1 r],[])
theorem Bo:Fn Tryz.prog 95 .plain By:=mkF [] trivial Tryz.func95 0
def Avj:Av:=Au [g_0] (fun d=>(Akx d.1).val) fun r=>([rv g_1 r],[])
theorem A34:Fn Tryz.prog 162 .plain Avj:=mkF [(95,.plain,By)] ⟨Bo,trivial⟩ Tryz.func162 0
def Agw:Av:=Au [g_4] (fun d=>(Agx d.1).val) fun r=>([rv g_1 r],[])
theorem An9:Fn Tryz.prog 96 .plain Agw:=mkF [(95,.plain,By)] ⟨Bo,trivial⟩ Tryz.func96 0
def No:Av:=Au [g_0,g_0] (fun d=>(Ajh d.1 d.2.1).val) fun r=>([rv g_1 r],[])
theorem Qq:Fn Tryz.prog 143 .plain No:=mkF [] trivial Tryz.func143 0
def Tw:Av:=Au [g_7,g_7] (fun d=>(Tx d.1 d.2.1).val) fun r=>([rv g_1 r],[])
theorem Aes:Fn Tryz.prog 163 .plain Tw:=mkF [(143,.plain,No)] ⟨Qq,trivial⟩ Tryz.func163 0
def Aky:Av:=Au [g_6,g_6] (fun d=>(Zc d.1 d.2.1).val) fun r=>([rv g_1 r],[])
theorem Aw0:Fn Tryz.prog 352 .plain Aky:=Dw [] trivial ⟨[(1,.v false [(.sl 3 [.int .i64],.ro)]),(12,.v false [(.sl 3 [.int .i64],.ro)]),(13,.v false [(.int .i64,.nil)]),(14,.v false [(.int .i64,.nil)])],[],[]⟩ 5000000 [(.ret,⟨[(4,.v false [(.bool,.nil)])],[],[]⟩),((.exit 0),⟨[],[],[]⟩)] 4 Aet Tryz.func352 0
def Agy:Av:=Au [g_9,g_9] (fun d=>(Agz d.1 d.2.1).val) fun r=>([rv g_1 r],[])
theorem Aoa:Fn Tryz.prog 280 .plain Agy:=mkF [(143,.plain,No),(352,.plain,Aky)] ⟨Qq,Aw0,trivial⟩ Tryz.func280 0
def Aeu:Av:=Au [Fo] (fun d=>(Qr d.1).val) fun r=>([rv g_1 r],[])
theorem Aru:Fn Tryz.prog 141 .plain Aeu:=mkF [(280,.plain,Agy)] ⟨Aoa,trivial⟩ Tryz.func141 0
def Ki:Av:=Au [g_0] (fun d=>(Aob d.1).val) fun r=>([rv g_1 r],[])
theorem K7:Fn Tryz.prog 140 .plain Ki:=mkF [] trivial Tryz.func140 0
def Ac5:Av:=Au [Xv] (fun d=>(Ac6 d.1).val) fun r=>([rv g_1 r],[])
theorem Akz:Fn Tryz.prog 164 .plain Ac5:=mkF [(95,.plain,By)] ⟨Bo,trivial⟩ Tryz.func164 0
def W6:Av:=Au [g_3] (fun d=>(Ag0 d.1).val) fun r=>([rv g_1 r],[])
theorem Ac7:Fn Tryz.prog 101 .plain W6:=mkF [(95,.plain,By)] ⟨Bo,trivial⟩ Tryz.func101 0
def Arv:Av:=Au [g_3,g_3] (fun d=>(Ag1 d.1 d.2.1).val) fun r=>([rv g_1 r],[])
theorem A1g:Fn Tryz.prog 283 .plain Arv:=mkF [] trivial Tryz.func283 0
def Mr:Av:=Au [g_7] (fun d=>(Ac8 d.1).val) fun r=>([rv g_1 r],[])
theorem O6:Fn Tryz.prog 145 .plain Mr:=mkF [(95,.plain,By),(140,.plain,Ki),(101,.plain,W6),(283,.plain,Arv),(163,.plain,Tw)] ⟨Bo,K7,Ac7,A1g,Aes,trivial⟩ Tryz.func145 0
def O7:Av:=Au [g_3] (fun d=>(Ag2 d.1).val) fun r=>([rv g_1 r],[])
theorem R6:Fn Tryz.prog 274 .plain O7:=mkF [] trivial Tryz.func274 0
def O8:Av:=Au [g_6,g_3] (fun d=>(Zd d.1 d.2.1).val) fun r=>([rv g_1 r],[])
theorem Tz:Fn Tryz.prog 384 .plain O8:=Dw [(95,.plain,By)] ⟨Bo,trivial⟩ ⟨[(0,.v false [(.sl 3 [.int .i64],.ro)]),(1,.v false [(.int .i64,.nil)]),(7,.v false [(.sl 3 [.int .i64],.ro)]),(8,.v false [(.int .i64,.nil)]),(9,.v false [(.int .i64,.nil)])],[],[]⟩ 3000000 [(.ret,⟨[(4,.v false [(.bool,.nil)])],[],[]⟩),((.exit 0),⟨[(0,.v false [(.sl 3 [.int .i64],.ro)]),(1,.v false [(.int .i64,.nil)])],[],[]⟩)] 2 I3 Tryz.func384 0
def Arw:Av:=Au [g_8,g_3] (fun d=>(Ag3 d.1 d.2.1).val) fun r=>([rv g_1 r],[])
theorem A1h:Fn Tryz.prog 385 .plain Arw:=mkF [] trivial Tryz.func385 0
def Avk:Av:=Au [g_8] (fun d=>(Ak0 d.1).val) fun r=>([rv g_1 r],[])
theorem A35:Fn Tryz.prog 353 .plain Avk:=Dw [(95,.plain,By),(384,.plain,O8),(385,.plain,Arw)] ⟨Bo,Tz,A1h,trivial⟩ ⟨[(1,.box 1 0),(3,.v false [(.int .i64,.nil)])],[(1,[(.int .i64,.nil),(.sl 3 [.int .i64],.ro)])],[]⟩ 5000000 [(.ret,⟨[(2,.v false [(.bool,.nil)])],[],[]⟩),((.exit 0),⟨[(1,.box 1 0)],[(1,[(.int .i64,.nil),(.sl 3 [.int .i64],.ro)])],[]⟩)] 4 Kj Tryz.func353 0
def Ag4:Av:=Au [g_9] (fun d=>(Apq d.1).val) fun r=>([rv g_1 r],[])
theorem Ak1:Fn Tryz.prog 281 .plain Ag4:=mkF [(95,.plain,By),(353,.plain,Avk)] ⟨Bo,A35,trivial⟩ Tryz.func281 0
def Avl:Av:=Au [Fo] (fun d=>(Ak2 d.1).val) fun r=>([rv g_1 r],[])
theorem A36:Fn Tryz.prog 282 .plain Avl:=mkF [(280,.plain,Agy),(281,.plain,Ag4),(95,.plain,By)] ⟨Aoa,Ak1,Bo,trivial⟩ Tryz.func282 0
def Jq:Av:=Au [Fo] (fun d=>(Ag5 d.1).val) fun r=>([rv g_1 r],[])
theorem Kk:Fn Tryz.prog 142 .plain Jq:=mkF [(274,.plain,O7),(140,.plain,Ki),(281,.plain,Ag4),(282,.plain,Avl)] ⟨R6,K7,Ak1,A36,trivial⟩ Tryz.func142 0
def Ak3:Av:=Au [g_5] (fun d=>(Ze d.1).val) fun r=>([rv g_1 r],[])
theorem Aw1:Fn Tryz.prog 165 .plain Ak3:=mkF [(140,.plain,Ki),(145,.plain,Mr),(143,.plain,No),(142,.plain,Jq)] ⟨K7,O6,Qq,Kk,trivial⟩ Tryz.func165 0
def I4:Av:=Au [g_5] (fun d=>(Zf d.1).val) fun r=>([rv g_1 r],[])
theorem J9:Fn Tryz.prog 40 .plain I4:=mkF [(95,.plain,By),(162,.plain,Avj),(96,.plain,Agw),(163,.plain,Tw),(141,.plain,Aeu),(140,.plain,Ki),(164,.plain,Ac5),(165,.plain,Ak3),(142,.plain,Jq)] ⟨Bo,A34,An9,Aes,Aru,K7,Akz,Aw1,Kk,trivial⟩ Tryz.func40 0
def Ag6:Av:=Au [g_5] (fun d=>(Apr d.1).val) fun r=>([rv g_5 r],[])
theorem Ak4:Fn Tryz.prog 155 .plain Ag6:=mkF [(134,.plain,Dj)] ⟨Da,trivial⟩ Tryz.func155 0
def Ak5:Av:=Au [g_3,g_3,g_0] (fun d=>(Ak6 d.1 d.2.1 d.2.2.1).val) fun r=>([rv Apb r],[])
theorem Arx:Fn Tryz.prog 161 .plain Ak5:=mkF [(134,.plain,Dj)] ⟨Da,trivial⟩ Tryz.func161 0
def Ak7:Av:=Au [Fo,g_3] (fun d=>(Zg d.1 d.2.1).val) fun r=>([rv Fo r],[])
theorem Aw2:Fn Tryz.prog 290 .plain Ak7:=mkF [(270,.plain,I2),(142,.plain,Jq),(95,.plain,By)] ⟨J8,Kk,Bo,trivial⟩ Tryz.func290 0
def Aev:Av:=Au [Xv,g_3] (fun d=>(Qs d.1 d.2.1).val) fun r=>([rv g_1 r],[])
theorem Ary:Fn Tryz.prog 291 .plain Aev:=mkF [(164,.plain,Ac5),(95,.plain,By)] ⟨Akz,Bo,trivial⟩ Tryz.func291 0
def T0:Av:=Au [Xv,g_3] (fun d=>(T1 d.1 d.2.1).val) fun r=>([rv Xv r.1,rv g_3 r.2],[])
theorem Aew:Fn Tryz.prog 154 .plain T0:=mkF [(291,.plain,Aev)] ⟨Ary,trivial⟩ Tryz.func154 0
def Zh:Av:=Au [g_3] (fun d=>(Zi d.1).val) fun r=>([rv Xv r],[])
theorem Aji:Fn Tryz.prog 160 .plain Zh:=mkF [(95,.plain,By)] ⟨Bo,trivial⟩ Tryz.func160 0
def Qt:Av:=Au [g_0,g_3,g_3] (fun d=>(Ayf d.1 d.2.1 d.2.2.1).val) fun r=>([rv g_0 r],[])
theorem Ss:Fn Tryz.prog 328 .plain Qt:=Dw [] trivial ⟨[(1,.v false [(.int .i64,.nil)]),(7,.v false [(.sl 5 [.int .u8],(.own 6000000))]),(8,.v false [(.int .i64,.nil)])],[],[6000000]⟩ 6000000 [((.exit 0),⟨[(7,.v false [(.sl 5 [.int .u8],(.own 6000000))])],[],[6000000]⟩)] 5 Arz Tryz.func328 0
def Ajj:Av:=Au [g_3] (fun d=>(T2 d.1).val) fun r=>([rv g_0 r],[])
theorem Atu:Fn Tryz.prog 293 .plain Ajj:=mkF [(95,.plain,By),(328,.plain,Qt)] ⟨Bo,Ss,trivial⟩ Tryz.func293 0
def H4:Av:=Au [Bdl] (fun d=>(Ag7 d.1).val) fun r=>([rv g_0 r],[])
theorem Ip:Fn Tryz.prog 275 .plain H4:=Dw [] trivial ⟨[(3,.v false [(.sl 5 [.int .u8],(.own 4000000))]),(7,.v false [(.sl 23 [.sl 5 [.int .u8]],.ro)]),(8,.v false [(.int .i64,.nil)]),(9,.v false [(.int .i64,.nil)])],[],[4000000]⟩ 4000000 [((.exit 0),⟨[(3,.v false [(.sl 5 [.int .u8],(.own 4000000))])],[],[4000000]⟩)] 3 I5 Tryz.func275 0
def Ag8:Av:=Au [g_3,g_0,g_3,g_3] (fun d=>(Ag9 d.1 d.2.1 d.2.2.1 d.2.2.2.1).val) fun r=>([rv g_0 r],[])
theorem Aoc:Fn Tryz.prog 276 .plain Ag8:=mkF [(274,.plain,O7),(140,.plain,Ki),(95,.plain,By),(328,.plain,Qt),(275,.plain,H4)] ⟨R6,K7,Bo,Ss,Ip,trivial⟩ Tryz.func276 0
def Avm:Av:=Au [] (fun d=>(Avn).val) fun r=>([rv g_6 r],[])
theorem A37:Fn Tryz.prog 427 .plain Avm:=mkF [] trivial Tryz.func427 0
def Aod:Av:=Au [] (fun d=>(Aoe).val) fun r=>([rv Axt r],[])
theorem Ayg:Fn Tryz.prog 417 .plain Aod:=mkF [(427,.plain,Avm)] ⟨A37,trivial⟩ Tryz.func417 0
def Aha:Av:=Au [Axt] (fun d=>(Ahb d.1).val) fun r=>([rv g_1 r],[])
theorem Aof:Fn Tryz.prog 423 .plain Aha:=mkF [(384,.plain,O8),(95,.plain,By)] ⟨Tz,Bo,trivial⟩ Tryz.func423 0
def A2p:Av:=Au [g_0,g_3,g_3] (fun d=>(Atv d.1 d.2.1 d.2.2.1).val) fun r=>([rv g_0 r.1,rv g_1 r.2],[])
theorem A8h:Fn Tryz.prog 374 .plain A2p:=mkF [] trivial Tryz.func374 0
def Ayh:Av:=Au [g_0,g_3,g_3] (fun d=>(Aps d.1 d.2.1 d.2.2.1).val) fun r=>([rv g_3 r.1,rv g_3 r.2.1,rv g_1 r.2.2],[])
theorem A57:Fn Tryz.prog 327 .plain Ayh:=Dw [(374,.plain,A2p)] ⟨A8h,trivial⟩ ⟨[(1,.v false [(.int .i64,.nil)]),(2,.v false [(.int .i64,.nil)]),(11,.v false [(.int .i64,.nil)]),(29,.v false [(.sl 5 [.int .u8],(.own 9000000))]),(30,.v false [(.int .i64,.nil)]),(31,.v false [(.int .i64,.nil)])],[],[9000000]⟩ 9000000 [((.exit 0),⟨[(1,.v false [(.int .i64,.nil)]),(2,.v false [(.int .i64,.nil)]),(11,.v false [(.int .i64,.nil)])],[],[]⟩)] 8 L4 Tryz.func327 0
def Atw:Av:=Au [g_3,g_3] (fun d=>(Atx d.1 d.2.1).val) fun r=>([rv g_3 r],[])
theorem Ayi:Fn Tryz.prog 431 .plain Atw:=mkF [] trivial Tryz.func431 0
def Ak8:Av:=Au [g_0] (fun d=>(O9 d.1).val) fun r=>([rv g_6 r],[])
def K8:Fns:=[(327,.plain,Ayh),(431,.plain,Atw)]
theorem Zj:CfgOk Tryz.prog (E9 K8):=Ik Rr Mo (show Nk Tryz.prog K8 from⟨A57,Ayi,trivial⟩)
def Aex:Sk:=⟨[(3,.v false [(.sl 3 [.int .i64],(.own 10000000))]),(5,.v false [(.int .i64,.nil)])],[],[10000000]⟩
def Aey:List (Ex×Sk):=[((.exit 2),⟨[(3,.v false [(.sl 3 [.int .i64],(.own 10000000))])],[],[10000000]⟩)]
def Aez:Sk:=⟨[(0,.v false [(.sl 5 [.int .u8],.ro)]),(3,.v false [(.sl 3 [.int .i64],(.own 6000000))]),(4,.v false [(.int .i64,.nil)])],[],[6000000]⟩
def Ae0:List (Ex×Sk):=[((.exit 0),⟨[(3,.v false [(.sl 3 [.int .i64],(.own 6000000))])],[],[6000000]⟩)]
def K9:H2:=fun i st=>cond (Nat.beq i 5) (lam Aez 6000000 Ae0 Hf st) <| cond (Nat.beq i 9) (lam Aex 10000000 Aey Hg st) <| .fail
theorem Ar0 (cx:Cx) (hp:cx.pin.length≤0):Fs Tryz.prog cx Tryz.f430.ntmps K9 (Bc Tryz.f430 0):=Hb Zj hp (En (by kernel_rfl:Bu (Bc Tryz.f430 0)=[]) trivial) (by kernel_rfl) (fun d=>(by kernel_rfl:bod (E9 K8) 0 Tryz.f430.ntmps K9 (Bc Tryz.f430 0) Aez 6000000 Ae0 d=Hf d))
theorem Ar1 (cx:Cx) (hp:cx.pin.length≤0):Fs Tryz.prog cx Tryz.f430.ntmps K9 (Bc Tryz.f430 1):=Hb Zj hp (En (by kernel_rfl:Bu (Bc Tryz.f430 1)=[]) trivial) (by kernel_rfl) (fun d=>(by kernel_rfl:bod (E9 K8) 0 Tryz.f430.ntmps K9 (Bc Tryz.f430 1) Aex 10000000 Aey d=Hg d))
theorem Aw3:Fn Tryz.prog 430 .plain Ak8:=Wy Zj Tryz.func430 (by kernel_rfl) (by kernel_rfl) (fun cx b hp hb=>En (by kernel_rfl:Bu (Tryz.f430.body.getD .skip)=[Bc Tryz.f430 0,Bc Tryz.f430 1]) ⟨Ar0 cx hp,Ar1 cx hp,trivial⟩ b hb) (fun d=>(by kernel_rfl:Iu (E9 K8) 0 K9 Tryz.f430 .plain (mkA [g_0] d)=(O9 d.1).run fun r=>some ([rv g_6 r],[])))
theorem A58 (n:Int) (w:World) (h0:0≤n) (h1:n≤63):
  Calls Tryz.prog 432 #[.int .i64 n] w (Ret w (.int .i64 (Ms[n.toNat]?.getD 0))):=by
 have hx: ∃x,Ms[n.toNat]? =some x:=⟨_,List.getElem?_eq_getElem (by simp[Ms];omega)⟩
 obtain⟨x,hx⟩:=hx
 have hcell:(Ak9 358 w Ar2).cell? ⟨w.heap.size,n.toNat,none⟩=some (.int .i64 x):=by
  rw[A1i];unfold Ar2;rw[List.getElem?_toArray,List.getElem?_map,hx];rfl
 rw[hx]
 go_enter Tryz.func432,Tryz.ntmps432
 go_wp2_with (first|(refine Aw4 rfl 358 _ rfl Ar2 (by kernel_rfl) ?_)|(refine Aw5 rfl 358 rfl _ _ Ar3 (by kernel_rfl) (by kernel_rfl) (by kernel_rfl) ?_)|(refine Aw6 rfl 358 _ _ rfl Ar2 rfl rfl (by kernel_rfl) (by kernel_rfl) (by kernel_rfl) ?_))
 go_ret
 refine Ret.mk rfl ?_
 rw[A59]
 exact(Cc.refl _).alloc _
theorem A6a (n:Int) (w:World) (h0: ¬(0≤n∧n≤63)):
  Calls Tryz.prog 432 #[.int .i64 n] w (Ret w (.int .i64 0)):=by
 by_cases h:n<0
 ·go_enter Tryz.func432,Tryz.ntmps432
  go_wp2_with fail
  go_ret
  exact Ret.mk rfl (Cc.refl _)
 ·have h2:63<n:=by omega
  go_enter Tryz.func432,Tryz.ntmps432
  go_wp2_with fail
  go_ret
  exact Ret.mk rfl (Cc.refl _)
def Aw7:List (Bool×List Sh):=[(false,[.int .i64])]
def Aw8 (r:YI):List RV×List RV:=([rv (false,[.int .i64]) r],[])
def Ajk:Av:=Au Aw7 (fun d=>(Ajl d.1).val) Aw8
theorem Aty:Fn Tryz.prog 432 .plain Ajk:=by
 refine⟨?_,Tryz.f432,Tryz.func432,by kernel_rfl,by kernel_rfl⟩
 intro rs res vals w G hv hG hr
 obtain⟨d,x,rfl,h1,h2⟩:=Ayj hv
 obtain⟨⟨n,_⟩,_⟩:=d
 cases h1
 subst h2
 match vals,hr with
 |[v],hr=>
  have e:v= .int .i64 n:=hr.1.1.1
  subst e
  refine(?_:Calls Tryz.prog 432 #[.int .i64 n] w (Ret w (.int .i64 (Su n)))).mono fun e w' h=>A6b (A6c n) h
  unfold Su
  by_cases h:0≤n∧n≤63
  ·rw[if_pos h];exact A58 n w h.1 h.2
  ·rw[if_neg h];exact A6a n w h

def Avo:Av:=Au [g_3,g_3] (fun d=>(Avp d.1 d.2.1).val) fun r=>([rv g_3 r],[])
theorem A38:Fn Tryz.prog 433 .plain Avo:=mkF [] trivial Tryz.func433 0
def Ala:Av:=Au [g_6,g_0] (fun d=>(Pa d.1 d.2.1).val) fun r=>([rv g_6 r],[])
def La:Fns:=[(384,.plain,O8),(430,.plain,Ak8),(431,.plain,Atw),(432,.plain,Ajk),(433,.plain,Avo)]
theorem Zk:CfgOk Tryz.prog (E9 La):=Ik Rr Mo (show Nk Tryz.prog La from⟨Tz,Aw3,Ayi,Aty,A38,trivial⟩)
def Abi:Sk:=⟨[(0,.v false [(.sl 3 [.int .i64],.ro)]),(5,.v false [(.sl 3 [.int .i64],(.own 17000000))]),(133,.v false [(.sl 3 [.int .i64],(.own 17000001))]),(134,.v false [(.int .i64,.nil)]),(135,.v false [(.int .i64,.nil)])],[],[17000000,17000001]⟩
def Abj:List (Ex×Sk):=[((.exit 2),⟨[(5,.v false [(.sl 3 [.int .i64],(.own 17000000))])],[],[17000000]⟩)]
def Ae1:Sk:=⟨[(0,.v false [(.sl 3 [.int .i64],.ro)]),(5,.v false [(.sl 3 [.int .i64],(.own 8000000))]),(6,.v false [(.sl 3 [.int .i64],(.own 8000001))]),(7,.v false [(.int .i64,.nil)]),(8,.v false [(.int .i64,.nil)]),(9,.v false [(.int .i64,.nil)]),(10,.v false [(.int .i64,.nil)]),(11,.v false [(.int .i64,.nil)]),(12,.v false [(.int .i64,.nil)]),(13,.v false [(.int .i64,.nil)]),(14,.v false [(.int .i64,.nil)]),(15,.v false [(.int .i64,.nil)])],[],[8000000,8000001]⟩
def Ae2:List (Ex×Sk):=[((.exit 0),⟨[(0,.v false [(.sl 3 [.int .i64],.ro)]),(5,.v false [(.sl 3 [.int .i64],(.own 8000000))]),(7,.v false [(.int .i64,.nil)]),(8,.v false [(.int .i64,.nil)]),(9,.v false [(.int .i64,.nil)]),(10,.v false [(.int .i64,.nil)]),(11,.v false [(.int .i64,.nil)]),(12,.v false [(.int .i64,.nil)]),(13,.v false [(.int .i64,.nil)]),(14,.v false [(.int .i64,.nil)])],[],[8000000]⟩)]
def Lb:H2:=fun i st=>cond (Nat.beq i 7) (lam Ae1 8000000 Ae2 Fw st) <| cond (Nat.beq i 16) (lam Abi 17000000 Abj Fb st) <| .fail
theorem Ar4 (cx:Cx) (hp:cx.pin.length≤0):Fs Tryz.prog cx Tryz.f429.ntmps Lb (Bc Tryz.f429 0):=Hb Zk hp (En (by kernel_rfl:Bu (Bc Tryz.f429 0)=[]) trivial) (by kernel_rfl) (fun d=>(by kernel_rfl:bod (E9 La) 0 Tryz.f429.ntmps Lb (Bc Tryz.f429 0) Ae1 8000000 Ae2 d=Fw d))
theorem Apt (cx:Cx) (hp:cx.pin.length≤0):Fs Tryz.prog cx Tryz.f429.ntmps Lb (Bc Tryz.f429 1):=Hb Zk hp (En (by kernel_rfl:Bu (Bc Tryz.f429 1)=[]) trivial) (by kernel_rfl) (fun d=>(by kernel_rfl:bod (E9 La) 0 Tryz.f429.ntmps Lb (Bc Tryz.f429 1) Abi 17000000 Abj d=Fb d))
theorem Aw9:Fn Tryz.prog 429 .plain Ala:=Wy Zk Tryz.func429 (by kernel_rfl) (by kernel_rfl) (fun cx b hp hb=>En (by kernel_rfl:Bu (Tryz.f429.body.getD .skip)=[Bc Tryz.f429 0,Bc Tryz.f429 1]) ⟨Ar4 cx hp,Apt cx hp,trivial⟩ b hb) (fun d=>(by kernel_rfl:Iu (E9 La) 0 Lb Tryz.f429 .plain (mkA [g_6,g_0] d)=(Pa d.1 d.2.1).run fun r=>some ([rv g_6 r],[])))
def Pb:Av:=Au [g_6,g_0] (fun d=>(Pc d.1 d.2.1).val) fun r=>([rv g_6 r.1,rv g_0 r.2],[])
theorem Zl:Fn Tryz.prog 424 .view Pb:=Dw [(429,.plain,Ala)] ⟨Aw9,trivial⟩ ⟨[(0,.v false [(.sl 3 [.int .i64],.rd)]),(1,.v false [(.sl 5 [.int .u8],.ro)])],[],[]⟩ 2000000 [((.exit 0),⟨[(0,.v false [(.sl 3 [.int .i64],.rd)]),(1,.v false [(.sl 5 [.int .u8],.ro)])],[],[]⟩)] 1 Eh Tryz.func424 0
def Aog:Av:=Au [Axt,g_0] (fun d=>(Ac9 d.1 d.2.1).val) fun r=>([rv Axt r],[])
theorem Ayk:Fn Tryz.prog 416 .plain Aog:=mkF [(423,.plain,Aha),(134,.plain,Dj),(275,.plain,H4),(424,.view,Pb)] ⟨Aof,Da,Ip,Zl,trivial⟩ Tryz.func416 0
def A2q:Av:=Au [g_3] (fun d=>(Atz d.1).val) fun r=>([rv g_0 r],[])
theorem A8i:Fn Tryz.prog 425 .plain A2q:=Dw [(95,.plain,By),(328,.plain,Qt)] ⟨Bo,Ss,trivial⟩ ⟨[(0,.v false [(.int .i64,.nil)]),(3,.v false [(.sl 5 [.int .u8],(.own 5000000))])],[],[5000000]⟩ 5000000 [((.exit 0),⟨[(0,.v false [(.int .i64,.nil)]),(3,.v false [(.sl 5 [.int .u8],(.own 5000000))])],[],[5000000]⟩)] 4 Lc Tryz.func425 0
def Ajm:Av:=Au [g_6] (fun d=>(T3 d.1).val) fun r=>([rv g_0 r],[])
theorem At0:Fn Tryz.prog 426 .plain Ajm:=Dw [(328,.plain,Qt)] ⟨Ss,trivial⟩ ⟨[(3,.v false [(.sl 5 [.int .u8],(.own 4000000))]),(7,.v false [(.sl 3 [.int .i64],.ro)]),(8,.v false [(.int .i64,.nil)]),(9,.v false [(.int .i64,.nil)])],[],[4000000]⟩ 4000000 [((.exit 0),⟨[(3,.v false [(.sl 5 [.int .u8],(.own 4000000))])],[],[4000000]⟩)] 3 Gf Tryz.func426 0
def Aoh:Av:=Au [Axt] (fun d=>(Ada d.1).val) fun r=>([rv g_0 r],[])
theorem Ayl:Fn Tryz.prog 415 .plain Aoh:=mkF [(423,.plain,Aha),(425,.plain,A2q),(275,.plain,H4),(424,.view,Pb),(426,.plain,Ajm)] ⟨Aof,A8i,Ip,Zl,At0,trivial⟩ Tryz.func415 0
def At1:Av:=Au [g_0] (fun d=>(At2 d.1).val) fun r=>([rv g_0 r],[])
theorem Aym:Fn Tryz.prog 401 .plain At1:=mkF [(417,.plain,Aod),(416,.plain,Aog),(415,.plain,Aoh)] ⟨Ayg,Ayk,Ayl,trivial⟩ Tryz.func401 0
def Alb:Av:=Au [g_0] (fun d=>(Zm d.1).val) fun r=>([rv g_0 r],[])
theorem Axa:Fn Tryz.prog 400 .plain Alb:=Dw [(134,.plain,Dj),(401,.plain,At1)] ⟨Da,Aym,trivial⟩ ⟨[(3,.v false [(.sl 5 [.int .u8],(.own 7000000))])],[],[7000000]⟩ 7000000 [((.exit 0),⟨[(3,.v false [(.sl 5 [.int .u8],(.own 7000000))])],[],[7000000]⟩)] 6 Ev Tryz.func400 0
def Ar5:Av:=Au [g_0,Bdm] (fun d=>(Ahc d.1 d.2.1).val) fun r=>([rv g_0 r],[])
theorem A1j:Fn Tryz.prog 402 .plain Ar5:=Dw [] trivial ⟨[(1,.v false [(.int .u8,.nil)]),(5,.v false [(.sl 5 [.int .u8],(.own 4000000))]),(9,.v false [(.sl 5 [.int .u8],.ro)]),(10,.v false [(.int .i64,.nil)]),(11,.v false [(.int .i64,.nil)])],[],[4000000]⟩ 4000000 [((.exit 0),⟨[(5,.v false [(.sl 5 [.int .u8],(.own 4000000))])],[],[4000000]⟩)] 3 I6 Tryz.func402 0
def Ahd:Av:=Au [g_0,g_0] (fun d=>(Apu d.1 d.2.1).val) fun r=>([rv g_0 r],[])
theorem Alc:Fn Tryz.prog 375 .plain Ahd:=mkF [(400,.plain,Alb),(402,.plain,Ar5),(275,.plain,H4),(401,.plain,At1)] ⟨Axa,A1j,Ip,Aym,trivial⟩ Tryz.func375 0
def Aoi:Av:=Au [g_0,g_0,g_3] (fun d=>(Adb d.1 d.2.1 d.2.2.1).val) fun r=>([rv g_0 r],[])
theorem Ayn:Fn Tryz.prog 420 .plain Aoi:=mkF [(95,.plain,By),(275,.plain,H4),(328,.plain,Qt),(375,.plain,Ahd)] ⟨Bo,Ip,Ss,Alc,trivial⟩ Tryz.func420 0
def Ar6:Av:=Au [g_0,g_0,g_3] (fun d=>(Ahe d.1 d.2.1 d.2.2.1).val) fun r=>([rv g_0 r],[])
theorem A1k:Fn Tryz.prog 406 .plain Ar6:=Dw [(95,.plain,By),(420,.plain,Aoi),(134,.plain,Dj)] ⟨Bo,Ayn,Da,trivial⟩ ⟨[(0,.v false [(.sl 5 [.int .u8],.ro)]),(1,.v false [(.sl 5 [.int .u8],.ro)]),(2,.v false [(.int .i64,.nil)]),(7,.v false [(.sl 5 [.int .u8],(.own 6000000))]),(8,.v false [(.int .i64,.nil)])],[],[6000000]⟩ 6000000 [((.exit 0),⟨[(2,.v false [(.int .i64,.nil)]),(7,.v false [(.sl 5 [.int .u8],(.own 6000000))])],[],[6000000]⟩)] 5 I7 Tryz.func406 0
def A2r:Av:=Au [g_0,g_0,g_0] (fun d=>(At3 d.1 d.2.1 d.2.2.1).val) fun r=>([rv g_0 r],[])
theorem A8j:Fn Tryz.prog 383 .plain A2r:=Dw [(406,.plain,Ar6)] ⟨A1k,trivial⟩ ⟨[(2,.v false [(.sl 5 [.int .u8],.ro)]),(7,.v false [(.sl 5 [.int .u8],(.own 6000000))]),(28,.v false [(.sl 5 [.int .u8],(.own 6000001))]),(29,.v false [(.int .i64,.nil)]),(30,.v false [(.int .i64,.nil)])],[],[6000000,6000001]⟩ 6000000 [((.exit 0),⟨[(7,.v false [(.sl 5 [.int .u8],(.own 6000000))])],[],[6000000]⟩)] 5 Od Tryz.func383 0
def Zn:Av:=Au [g_3,g_7] (fun d=>(Zo d.1 d.2.1).val) fun r=>([rv g_0 r],[])
theorem Ajn:Fn Tryz.prog 133 .plain Zn:=mkF [(274,.plain,O7),(101,.plain,W6),(145,.plain,Mr),(276,.plain,Ag8),(275,.plain,H4)] ⟨R6,Ac7,O6,Aoc,Ip,trivial⟩ Tryz.func133 0
def A2s:Av:=Au [g_0,g_0] (fun d=>(At4 d.1 d.2.1).val) fun r=>([rv g_0 r],[])
theorem A8k:Fn Tryz.prog 330 .plain A2s:=mkF [(375,.plain,Ahd),(134,.plain,Dj)] ⟨Alc,Da,trivial⟩ Tryz.func330 0
def Ayo:Av:=Au [g_0,g_3,g_0,g_3,g_3,g_3,g_0] (fun d=>(Apv d.1 d.2.1 d.2.2.1 d.2.2.2.1 d.2.2.2.2.1 d.2.2.2.2.2.1 d.2.2.2.2.2.2.1).val) fun r=>([rv g_7 r.1,rv g_1 r.2],[])
theorem A6d:Fn Tryz.prog 351 .plain Ayo:=mkF [(134,.plain,Dj),(274,.plain,O7),(101,.plain,W6),(145,.plain,Mr),(276,.plain,Ag8),(383,.plain,A2r),(133,.plain,Zn),(330,.plain,A2s)] ⟨Da,R6,Ac7,O6,Aoc,A8j,Ajn,A8k,trivial⟩ Tryz.func351 0
def Ar7:Av:=Au [g_9,g_3,g_0,g_3,g_0] (fun d=>(Ahf d.1 d.2.1 d.2.2.1 d.2.2.2.1 d.2.2.2.2.1).val) fun r=>([rv g_9 r.1,rv g_7 r.2.1,rv g_3 r.2.2],[])
theorem A1l:Fn Tryz.prog 279 .plain Ar7:=mkF [(346,.plain,Agt),(281,.plain,Ag4),(351,.plain,Ayo)] ⟨An8,Ak1,A6d,trivial⟩ Tryz.func279 0
def Zp:Av:=Au [Fo,g_3,g_0] (fun d=>(Zq d.1 d.2.1 d.2.2.1).val) fun r=>([rv Fo r.1,rv g_7 r.2.1,rv g_3 r.2.2],[])
theorem Ajo:Fn Tryz.prog 138 .plain Zp:=mkF [(270,.plain,I2),(142,.plain,Jq),(279,.plain,Ar7)] ⟨J8,Kk,A1l,trivial⟩ Tryz.func138 0
def Zr:Av:=Au [Fo] (fun d=>(Zs d.1).val) fun r=>([rv Fo r.1,rv g_7 r.2.1,rv g_3 r.2.2],[])
theorem Ajp:Fn Tryz.prog 159 .plain Zr:=mkF [(142,.plain,Jq),(270,.plain,I2),(293,.plain,Ajj),(138,.plain,Zp)] ⟨Kk,J8,Atu,Ajo,trivial⟩ Tryz.func159 0
def Ayp:Av:=Au [g_0,g_0] (fun d=>(Apw d.1 d.2.1).val) fun r=>([rv Apb r],[])
theorem A6e:Fn Tryz.prog 245 .plain Ayp:=mkF [(134,.plain,Dj)] ⟨Da,trivial⟩ Tryz.func245 0
def W7:Av:=Au [Fo,g_7] (fun d=>(Ahg d.1 d.2.1).val) fun r=>([rv Apb r],[])
theorem Adc:Fn Tryz.prog 139 .plain W7:=mkF [(133,.plain,Zn),(245,.plain,Ayp)] ⟨Ajn,A6e,trivial⟩ Tryz.func139 0
def Ar8:Av:=Au [g_5,g_3] (fun d=>(Ahh d.1 d.2.1).val) fun r=>([rv g_5 r.1,rv Apa r.2.1,rv Aj3 r.2.2],[])
theorem A1m:Fn Tryz.prog 153 .plain Ar8:=mkF [(155,.plain,Ag6),(161,.plain,Ak5),(152,.plain,He),(290,.plain,Ak7),(154,.plain,T0),(160,.plain,Zh),(159,.plain,Zr),(139,.plain,W7)] ⟨Ak4,Arx,H3,Aw2,Aew,Aji,Ajp,Adc,trivial⟩ Tryz.func153 0
def Ar9:Av:=Au [g_5] (fun d=>(Ahi d.1).val) fun r=>([rv g_7 r],[])
theorem A1n:Fn Tryz.prog 156 .plain Ar9:=mkF [(134,.plain,Dj)] ⟨Da,trivial⟩ Tryz.func156 0
def Ae3:Av:=Au [g_5,g_3] (fun d=>(Qu d.1 d.2.1).val) fun r=>([rv g_5 r.1,rv Apa r.2.1,rv Aj3 r.2.2],[])
theorem Asa:Fn Tryz.prog 36 .plain Ae3:=mkF [(152,.plain,He),(40,.plain,I4),(95,.plain,By),(153,.plain,Ar8),(154,.plain,T0),(155,.plain,Ag6),(134,.plain,Dj),(156,.plain,Ar9),(157,.plain,Tu)] ⟨H3,J9,Bo,A1m,Aew,Ak4,Da,A1n,Aer,trivial⟩ Tryz.func36 0
def Ae4:Av:=Au [g_5,g_3,g_0] (fun d=>(Qv d.1 d.2.1 d.2.2.1).val) fun r=>([rv g_5 r.1,rv Apa r.2.1,rv Aj3 r.2.2.1,rv g_3 r.2.2.2],[])
theorem Asb:Fn Tryz.prog 37 .plain Ae4:=mkF [(152,.plain,He),(40,.plain,I4),(95,.plain,By),(138,.plain,Zp),(134,.plain,Dj),(139,.plain,W7)] ⟨H3,J9,Bo,Ajo,Da,Adc,trivial⟩ Tryz.func37 0
def Asc:Av:=Au [g_0,g_0,g_3] (fun d=>(Ahj d.1 d.2.1 d.2.2.1).val) fun r=>([rv g_0 r.1,rv g_1 r.2],[])
theorem A1o:Fn Tryz.prog 356 .plain Asc:=Dw [(95,.plain,By),(275,.plain,H4),(375,.plain,Ahd),(134,.plain,Dj)] ⟨Bo,Ip,Alc,Da,trivial⟩ ⟨[(0,.v false [(.sl 5 [.int .u8],.ro)]),(1,.v false [(.sl 5 [.int .u8],.ro)]),(2,.v false [(.int .i64,.nil)]),(8,.v false [(.sl 5 [.int .u8],(.own 7000000))]),(9,.v false [(.sl 5 [.int .u8],(.own 7000001))]),(10,.v false [(.int .i64,.nil)])],[],[7000000,7000001]⟩ 7000000 [((.exit 0),⟨[(2,.v false [(.int .i64,.nil)]),(8,.v false [(.sl 5 [.int .u8],(.own 7000000))])],[],[7000000]⟩)] 6 I8 Tryz.func356 0
def Asd:Av:=Au [g_0,Bbq] (fun d=>(Ahk d.1 d.2.1).val) fun r=>([rv g_0 r],[])
theorem A1p:Fn Tryz.prog 292 .plain Asd:=mkF [(356,.plain,Asc)] ⟨A1o,trivial⟩ Tryz.func292 0
def Ayq:Av:=Au [Fo] (fun d=>(Apx d.1).val) fun r=>([rv Fo r.1,rv g_1 r.2],[])
theorem A6f:Fn Tryz.prog 158 .plain Ayq:=mkF [(270,.plain,I2),(142,.plain,Jq),(292,.plain,Asd)] ⟨J8,Kk,A1p,trivial⟩ Tryz.func158 0
def Abk:Av:=Au [g_5,g_3] (fun d=>(Pd d.1 d.2.1).val) fun r=>([rv g_5 r.1,rv Apa r.2.1,rv Aj3 r.2.2.1,rv g_3 r.2.2.2],[])
theorem Apy:Fn Tryz.prog 38 .plain Abk:=mkF [(152,.plain,He),(40,.plain,I4),(95,.plain,By),(158,.plain,Ayq),(159,.plain,Zr),(160,.plain,Zh),(139,.plain,W7)] ⟨H3,J9,Bo,A6f,Ajp,Aji,Adc,trivial⟩ Tryz.func38 0
def Ayr:Av:=Au [g_5] (fun d=>(Apz d.1).val) fun r=>([rv g_5 r.1,rv Aj3 r.2],[])
theorem A6g:Fn Tryz.prog 39 .plain Ayr:=mkF [(40,.plain,I4),(152,.plain,He),(155,.plain,Ag6),(161,.plain,Ak5)] ⟨J9,H3,Ak4,Arx,trivial⟩ Tryz.func39 0
def Ald:Av:=Au [Apa] (fun d=>(Zt d.1).val) fun r=>([rv g_1 r],[])
theorem Axb:Fn Tryz.prog 41 .plain Ald:=Dw [(145,.plain,Mr)] ⟨O6,trivial⟩ ⟨[(0,.v false [(.sl 76 Axs,.ro)]),(3,.v false [(.int .i64,.nil)])],[],[]⟩ 3000000 [(.ret,⟨[(2,.v false [(.bool,.nil)])],[],[]⟩),((.exit 0),⟨[],[],[]⟩)] 2 Hh Tryz.func41 0
def Aoj:Av:=Au [g_0,g_3] (fun d=>(Ade d.1 d.2.1).val) fun r=>([rv g_1 r],[])
theorem Ays:Fn Tryz.prog 284 .plain Aoj:=mkF [] trivial Tryz.func284 0
def Ase:Av:=Au [Apb] (fun d=>(Ahl d.1).val) fun r=>([rv g_1 r],[])
theorem A1q:Fn Tryz.prog 146 .plain Ase:=mkF [(95,.plain,By),(284,.plain,Aoj),(96,.plain,Agw)] ⟨Bo,Ays,An9,trivial⟩ Tryz.func146 0
def Aok:Av:=Au [Aj3] (fun d=>(Adf d.1).val) fun r=>([rv g_1 r],[])
theorem Ayt:Fn Tryz.prog 31 .plain Aok:=Dw [(146,.plain,Ase)] ⟨A1q,trivial⟩ ⟨[(0,.v false [(.sl 113 h_9,.ro)]),(3,.v false [(.int .i64,.nil)])],[],[]⟩ 3000000 [(.ret,⟨[(2,.v false [(.bool,.nil)])],[],[]⟩),((.exit 0),⟨[],[],[]⟩)] 2 Hx Tryz.func31 0
def Zu:Av:=Au [g_0,g_0] (fun d=>(Ap0 d.1 d.2.1).val) fun r=>([rv g_1 r],[])
theorem Abl:Fn Tryz.prog 34 .plain Zu:=mkF [] trivial Tryz.func34 0
def Ajq:Av:=Au [g_7,g_7] (fun d=>(T4 d.1 d.2.1).val) fun r=>([rv g_1 r],[])
theorem At5:Fn Tryz.prog 47 .plain Ajq:=mkF [(34,.plain,Zu)] ⟨Abl,trivial⟩ Tryz.func47 0
def Ale:Av:=Au [g_6,g_6] (fun d=>(Zv d.1 d.2.1).val) fun r=>([rv g_1 r],[])
theorem Axc:Fn Tryz.prog 386 .plain Ale:=Dw [] trivial ⟨[(0,.v false [(.sl 3 [.int .i64],.ro)]),(1,.v false [(.sl 3 [.int .i64],.ro)]),(5,.v false [(.int .i64,.nil)])],[],[]⟩ 5000000 [(.ret,⟨[(4,.v false [(.bool,.nil)])],[],[]⟩),((.exit 0),⟨[],[],[]⟩)] 4 Hi Tryz.func386 0
def Aol:Av:=Au [g_8,g_8] (fun d=>(Adg d.1 d.2.1).val) fun r=>([rv g_1 r],[])
theorem Ayu:Fn Tryz.prog 354 .plain Aol:=mkF [(386,.plain,Ale)] ⟨Axc,trivial⟩ Tryz.func354 0
def Asf:Av:=Au [g_9,g_9] (fun d=>(Ahm d.1 d.2.1).val) fun r=>([rv g_1 r],[])
theorem A1r:Fn Tryz.prog 285 .plain Asf:=mkF [(34,.plain,Zu),(354,.plain,Aol)] ⟨Abl,Ayu,trivial⟩ Tryz.func285 0
def Alf:Av:=Au [Fo,Fo] (fun d=>(Zw d.1 d.2.1).val) fun r=>([rv g_1 r],[])
theorem Axd:Fn Tryz.prog 147 .plain Alf:=mkF [(34,.plain,Zu),(285,.plain,Asf)] ⟨Abl,A1r,trivial⟩ Tryz.func147 0
def Ae5:Av:=Au [g_5,g_5] (fun d=>(Qw d.1 d.2.1).val) fun r=>([rv g_1 r],[])
theorem Asg:Fn Tryz.prog 42 .plain Ae5:=mkF [(34,.plain,Zu),(47,.plain,Ajq),(147,.plain,Alf)] ⟨Abl,At5,Axd,trivial⟩ Tryz.func42 0
end
end Go.Proofs.YtmhhajdeafijmaaGreat

/-
  That the functions of the seat answer what the terms of text W say; nothing is assumed.
-/
import Derived.Test.YtmhhajdeafijmaaGreatW
import Derived.Test.YtmhhajdeafijmaaGreatProg
import Derived.KernelRfl
namespace Go.Proofs.YtmhhajdeafijmaaGreat
open Go.RowKit
set_option linter.unusedVariables false
set_option maxRecDepth 100000
set_option maxHeartbeats 4000000
noncomputable section
abbrev h_0:List Sh:=[.int .i64,.int .i64,.bool,.int .u8]
abbrev h_1:List Sh:=[.bool,.int .i64,.int .i64,.int .i64]
abbrev h_2:List Sh:=[.sl 5 [.int .u8],.int .i64,.int .i64]
abbrev h_3:List Sh:=[.int .i64,.int .i64,.int .i64,.int .i64]
abbrev h_4:List Sh:=[.sl 3 [.int .i64],.sl 5 [.int .u8],.int .i64]
abbrev h_5:List Sh:=[.int .i64,.int .i64,.sl 5 [.int .u8],.int .i64]
abbrev h_6:List Sh:=[.int .i64,.sl 5 [.int .u8],.int .i64,.int .i64,.sl 3 [.int .i64]]
abbrev h_7:List Sh:=[.int .i64,.int .i64,.sl 86 h_5]
abbrev h_8:List Sh:=[.int .i64,.int .i64,.sl 342 h_5]
abbrev h_9:List Sh:=[.int .i64,.int .i64,.int .i64,.sl 5 [.int .u8],.sl 5 [.int .u8],.int .i64,.int .i64,.sl 5 [.int .u8],.sl 5 [.int .u8],.int .i64,.int .i64,.int .i64]
abbrev Ax9:List Sh:=[.int .i64,.int .i64,.sl 5 [.int .u8],.sl 5 [.int .u8],.int .i64,.sl 5 [.int .u8],.sl 5 [.int .u8],.int .i64,.int .i64,.sl 5 [.int .u8],.sl 5 [.int .u8]]
abbrev Bd6:List Sh:=[.int .i64,.int .i64,.int .i64,.int .i64,.sl 5 [.int .u8],.sl 5 [.int .u8],.int .i64,.sl 5 [.int .u8],.sl 5 [.int .u8],.int .i64,.int .i64,.sl 5 [.int .u8],.sl 5 [.int .u8]]
abbrev Bb7:List Sh:=[.int .i64,.sl 5 [.int .u8],.int .i64,.sl 5 [.int .u8],.int .i64,.int .i64,.sl 3 [.int .i64],.int .i64,.sl 5 [.int .u8],.int .i64,.int .i64,.sl 3 [.int .i64],.bool,.int .i64,.sl 5 [.int .u8]]
abbrev Bdv:List Sh:=[.int .i64,.sl 5 [.int .u8],.sl 5 [.int .u8],.int .i64,.sl 5 [.int .u8],.int .i64,.sl 5 [.int .u8],.int .i64,.int .i64,.sl 3 [.int .i64],.int .i64,.sl 5 [.int .u8],.int .i64,.int .i64,.sl 3 [.int .i64],.bool,.int .i64,.sl 5 [.int .u8],.int .i64,.int .i64,.sl 86 h_5,.int .i64,.int .i64,.bool]
abbrev Bdw:List Sh:=[.int .i64,.sl 5 [.int .u8],.sl 5 [.int .u8],.int .i64,.sl 5 [.int .u8],.int .i64,.sl 5 [.int .u8],.int .i64,.int .i64,.sl 3 [.int .i64],.int .i64,.sl 5 [.int .u8],.int .i64,.int .i64,.sl 3 [.int .i64],.bool,.int .i64,.sl 5 [.int .u8],.int .i64,.int .i64,.sl 342 h_5,.int .i64,.int .i64,.bool]
abbrev Bd7:List Sh:=[.sl 23 [.sl 5 [.int .u8]],.sl 5 [.int .u8],.sl 5 [.int .u8],.int .i64,.int .i64,.sl 74 Bdv,.sl 230 h_3]
abbrev Bd8:List Sh:=[.sl 23 [.sl 5 [.int .u8]],.sl 5 [.int .u8],.sl 5 [.int .u8],.int .i64,.int .i64,.sl 301 Bdw,.sl 248 h_3]
abbrev Bb8:List Sh:=[.int .i64,.sl 5 [.int .u8],.int .i64,.int .i64,.int .i64,.sl 5 [.int .u8],.int .i64,.int .i64,.sl 5 [.int .u8],.sl 5 [.int .u8],.int .i64,.sl 5 [.int .u8],.sl 5 [.int .u8],.int .i64,.int .i64,.sl 5 [.int .u8],.sl 5 [.int .u8],.int .i64,.sl 5 [.int .u8],.int .i64,.sl 5 [.int .u8],.int .i64,.int .i64,.sl 3 [.int .i64],.int .i64,.sl 5 [.int .u8],.int .i64,.int .i64,.sl 3 [.int .i64],.bool,.int .i64,.sl 5 [.int .u8],.bool,.int .i64,.int .i64,.int .i64,.bool,.int .i64,.int .i64,.int .i64,.int .i64]
abbrev g_0:Bool×List Sh:=(false,[.sl 5 [.int .u8]])
abbrev g_1:Bool×List Sh:=(false,[.bool])
abbrev g_2:Bool×List Sh:=(true,h_2)
abbrev g_3:Bool×List Sh:=(false,[.int .i64])
abbrev g_4:Bool×List Sh:=(true,[.int .i64,.int .i64])
abbrev g_5:Bool×List Sh:=(true,Bb8)
abbrev g_6:Bool×List Sh:=(false,[.sl 3 [.int .i64]])
abbrev g_7:Bool×List Sh:=(true,Ax9)
abbrev g_8:Bool×List Sh:=(true,[.int .i64,.sl 3 [.int .i64]])
abbrev g_9:Bool×List Sh:=(true,h_6)
abbrev Fa:Bool×List Sh:=(true,Bb7)
abbrev Ahp:Bool×List Sh:=(true,h_1)
abbrev At9:Bool×List Sh:=(false,[.sl 76 Ax9])
abbrev Aua:Bool×List Sh:=(false,[.sl 113 h_9])
abbrev Bb9:Bool×List Sh:=(false,[.str])
abbrev Ap5:Bool×List Sh:=(true,h_9)
abbrev Aya:Bool×List Sh:=(true,h_4)
abbrev Bdx:Bool×List Sh:=(false,[.sl 23 [.sl 5 [.int .u8]]])
abbrev Bdy:Bool×List Sh:=(false,[.int .u8])
def tys:List (Nat×Ty):=[(3,⟨false,[.int .i64],[],false,[]⟩),
 (4,⟨false,[.bool],[],false,[]⟩),
 (5,⟨false,[.int .u8],[],false,[]⟩),
 (9,⟨false,[.str],[],false,[]⟩),
 (22,⟨false,[.sl 23 [.sl 5 [.int .u8]]],[],false,[]⟩),
 (23,⟨false,[.sl 5 [.int .u8]],[],false,[]⟩),
 (46,⟨false,[.sl 113 h_9],[],false,[]⟩),
 (50,⟨true,[.int .i64,.int .i64],[(0,1),(1,1)],true,[]⟩),
 (63,⟨false,[.sl 3 [.int .i64]],[],false,[]⟩),
 (65,⟨true,[.int .i64,.sl 3 [.int .i64]],[(0,1),(1,1)],false,[]⟩),
 (67,⟨true,h_6,[(0,1),(1,1),(2,1),(3,2)],false,[]⟩),
 (69,⟨true,Bb7,[(0,1),(1,1),(2,5),(7,5),(12,1),(13,1),(14,1)],false,[]⟩),
 (76,⟨true,Ax9,[(0,1),(1,1),(2,1),(3,1),(4,1),(5,1),(6,1),(7,1),(8,1),(9,1),(10,1)],false,[]⟩),
 (92,⟨true,h_1,[(0,1),(1,1),(2,1),(3,1)],true,[]⟩),
 (94,⟨true,Bb8,[(0,1),(1,1),(2,2),(4,1),(5,1),(6,11),(17,15),(32,4),(36,4),(40,1)],false,[]⟩),
 (97,⟨false,[.sl 76 Ax9],[],false,[]⟩),
 (113,⟨true,h_9,[(0,1),(1,1),(2,1),(3,1),(4,1),(5,1),(6,1),(7,1),(8,1),(9,2),(11,1)],false,[]⟩),
 (260,⟨true,h_2,[(0,1),(1,1),(2,1)],false,[]⟩),
 (308,⟨false,[.int .u64],[],false,[]⟩),
 (350,⟨true,h_4,[(0,1),(1,1),(2,1)],false,[]⟩)]
theorem Me:A4g Tryz.prog tys=true:=by kernel_rfl
theorem Ri:Tryz.prog.follows .mixedOrders=true:=by kernel_rfl
abbrev Ez (C:Fns):Cfg:=⟨Arh tys,Rj C,Oq C,3,4⟩
theorem mkF {f:FuncId} {fn:Func} {kd:Kind} {ps:List (Bool×List Sh)} {R:Type} {T:M8 ps→Tree R} {rvs:R→List RV×List RV} (C:Fns) (hc:Mw Tryz.prog C) (hf:Tryz.prog.funcs[f]? =some fn) (np:Nat) (hn:(fn.name== "runtime.NumGoroutine")=false:=by kernel_rfl) (hb:fn.body.isSome=true:=by kernel_rfl) (hl:Bx (fn.body.getD .skip)=[]:=by kernel_rfl)
  (he: ∀d,Ib (Ez C) np (fun _ _=>.fail) fn kd (mkA ps d)=(T d).run fun r=>some (rvs r):=by intro d;kernel_rfl):Fn Tryz.prog f kd (As ps (fun d=>(T d).val) rvs):=
 Wp (H7 Ri Me hc) hf hn hb (fun cx b hp hbb=>by rw[hl]at hbb;cases hbb) he
abbrev lpq (r:Nat) (K:Sk) (z:Nat) (X:List (Ex×Sk)) (B:K.den→Option (K.den⊕Zr X)):Hv:=fun i st=>cond (Nat.beq i r) (lam K z X B st) .fail
theorem De {f:FuncId} {fn:Func} {kd:Kind} {ps:List (Bool×List Sh)} {R:Type} {T:M8 ps→Tree R} {rvs:R→List RV×List RV} (C:Fns) (hc:Mw Tryz.prog C) (K:Sk) (z:Nat) (X:List (Ex×Sk)) (r:Nat) (B:K.den→Option (K.den⊕Zr X)) (hf:Tryz.prog.funcs[f]? =some fn) (np:Nat) (hn:(fn.name== "runtime.NumGoroutine")=false:=by kernel_rfl) (hb:fn.body.isSome=true:=by kernel_rfl) (h1:Bx (fn.body.getD .skip)=[Bk fn 0]:=by kernel_rfl) (h2:Bx (Bk fn 0)=[]:=by kernel_rfl)
  (hq:lpq r K z X B (Kz (Bk fn 0))=lam K z X B:=by kernel_rfl) (hl: ∀d,bod (Ez C) np fn.ntmps (lpq r K z X B) (Bk fn 0) K z X d=B d:=by intro d;kernel_rfl)
  (he: ∀d,Ib (Ez C) np (lpq r K z X B) fn kd (mkA ps d)=(T d).run fun r=>some (rvs r):=by intro d;kernel_rfl):Fn Tryz.prog f kd (As ps (fun d=>(T d).val) rvs):=
 Wp (H7 Ri Me hc) hf hn hb (fun cx b hp hbb=>Ec h1 ⟨Gt (H7 Ri Me hc) hp (Ec h2 trivial) hq hl,trivial⟩ b hbb) he
def A28:Av:=As [g_0] (fun d=>(A24 d.1).val) fun r=>([rv g_1 r],[])
theorem A9d:Fn Tryz.prog 26 .plain A28:=mkF [] trivial Tryz.func26 0
def Avn:Av:=As [g_0] (fun d=>(Aj2 d.1).val) fun r=>([rv g_2 r],[])
theorem A4h:Fn Tryz.prog 124 .ret Avn:=De [] trivial ⟨[(0,.v false [(.sl 5 [.int .u8],.ro)]),(3,.v false [(.int .i64,.nil)]),(4,.v false [(.int .i64,.nil)])],[],[]⟩ 4000000 [((.exit 0),⟨[(0,.v false [(.sl 5 [.int .u8],.ro)]),(3,.v false [(.int .i64,.nil)])],[],[]⟩)] 3 Q5 Tryz.func124 0
def Ot:Av:=As [g_2] (fun d=>(Afg d.1).val) fun r=>([rv g_3 r.1],[rv g_2 r.2])
theorem Rk:Fn Tryz.prog 269 (.box [3] true true) Ot:=mkF [] trivial Tryz.func269 1
def Cf:Av:=As [g_2,g_3] (fun d=>(Abw d.1 d.2.1).val) fun r=>([rv g_3 r.1],[rv g_2 r.2])
theorem B9:Fn Tryz.prog 175 (.box [3] true true) Cf:=mkF [(269,(.box [3] true true),Ot)] ⟨Rk,trivial⟩ Tryz.func175 1
def Ed:Av:=As [g_2,g_3] (fun d=>(Abx d.1 d.2.1).val) fun r=>([rv g_0 r.1],[rv g_2 r.2])
theorem Ee:Fn Tryz.prog 128 (.box [3] true true) Ed:=De [(269,(.box [3] true true),Ot)] ⟨Rk,trivial⟩ ⟨[(0,.box 0 0),(1,.v false [(.int .i64,.nil)]),(5,.v false [(.sl 5 [.int .u8],(.own 4000000))]),(6,.v false [(.int .i64,.nil)])],[(0,[(.sl 5 [.int .u8],(.pin 0)),(.int .i64,.nil),(.int .i64,.nil)])],[4000000]⟩ 4000000 [((.exit 0),⟨[(0,.box 0 0),(5,.v false [(.sl 5 [.int .u8],(.own 4000000))])],[(0,[(.sl 5 [.int .u8],(.pin 0)),(.int .i64,.nil),(.int .i64,.nil)])],[4000000]⟩)] 3 Jr Tryz.func128 1
def Ca:Av:=As [g_3,g_3,g_3] (fun d=>(Apg d.1 d.2.1 d.2.2.1).val) fun r=>([rv g_1 r],[])
theorem By:Fn Tryz.prog 66 .plain Ca:=mkF [] trivial Tryz.func66 0
def Ap6:Av:=As [g_3] (fun d=>(Aph d.1).val) fun r=>([rv g_4 r],[])
theorem Avo:Fn Tryz.prog 197 .plain Ap6:=mkF [(66,.plain,Ca)] ⟨By,trivial⟩ Tryz.func197 0
def Sc:Av:=As [g_0] (fun d=>(Aj4 d.1).val) fun r=>([rv g_1 r],[])
theorem Wq:Fn Tryz.prog 180 .plain Sc:=mkF [(66,.plain,Ca)] ⟨By,trivial⟩ Tryz.func180 0
def Ahq:Av:=As [g_4] (fun d=>(Afi d.1).val) fun r=>([rv g_1 r],[])
theorem An0:Fn Tryz.prog 67 .plain Ahq:=mkF [(66,.plain,Ca)] ⟨By,trivial⟩ Tryz.func67 0
def Ajl:Av:=As [g_3,g_0,g_4] (fun d=>(Sw d.1 d.2.1 d.2.2.1).val) fun r=>([rv g_5 r],[])
theorem Aub:Fn Tryz.prog 286 .plain Ajl:=mkF [(66,.plain,Ca),(180,.plain,Sc),(67,.plain,Ahq)] ⟨By,Wq,An0,trivial⟩ Tryz.func286 0
def C9:Av:=As [g_2,g_6] (fun d=>(Aap d.1 d.2.1).val) fun r=>([rv g_3 r.1],[rv g_2 r.2])
theorem C5:Fn Tryz.prog 127 (.box [3] true true) C9:=mkF [(175,(.box [3] true true),Cf)] ⟨B9,trivial⟩ Tryz.func127 1
def Ou:Av:=As [g_7] (fun d=>(Afj d.1).val) fun r=>([rv g_7 r],[])
theorem Rl:Fn Tryz.prog 296 .plain Ou:=mkF [] trivial Tryz.func296 0
def Ahr:Av:=As [g_8] (fun d=>(Are d.1).val) fun r=>([rv g_8 r],[])
theorem An1:Fn Tryz.prog 389 .plain Ahr:=mkF [] trivial Tryz.func389 0
def Ov:Av:=As [g_9] (fun d=>(Afl d.1).val) fun r=>([rv g_9 r],[])
theorem Rm:Fn Tryz.prog 358 .plain Ov:=mkF [(389,.plain,Ahr)] ⟨An1,trivial⟩ Tryz.func358 0
def Avp:Av:=As [g_9,g_1] (fun d=>(Aj5 d.1 d.2.1).val) fun r=>([rv g_9 r],[])
theorem A4i:Fn Tryz.prog 359 .plain Avp:=mkF [(358,.plain,Ov)] ⟨Rm,trivial⟩ Tryz.func359 0
def Rn:Av:=As [Fa] (fun d=>(Aby d.1).val) fun r=>([rv Fa r],[])
theorem Zs:Fn Tryz.prog 297 .plain Rn:=mkF [(358,.plain,Ov),(359,.plain,Avp)] ⟨Rm,A4i,trivial⟩ Tryz.func297 0
def Ac2:Av:=As [g_5] (fun d=>(Abz d.1).val) fun r=>([rv g_5 r],[])
theorem Aky:Fn Tryz.prog 169 .plain Ac2:=mkF [(296,.plain,Ou),(297,.plain,Rn)] ⟨Rl,Zs,trivial⟩ Tryz.func169 0
def Ac3:Av:=As [Ahp] (fun d=>(Ab0 d.1).val) fun r=>([rv g_1 r],[])
theorem Akz:Fn Tryz.prog 181 .plain Ac3:=mkF [(66,.plain,Ca)] ⟨By,trivial⟩ Tryz.func181 0
def Ad6:Av:=As [g_7] (fun d=>(Pz d.1).val) fun r=>([rv g_1 r],[])
theorem Ari:Fn Tryz.prog 182 .plain Ad6:=mkF [] trivial Tryz.func182 0
def Ac4:Av:=As [g_9] (fun d=>(Ab1 d.1).val) fun r=>([rv g_1 r],[])
theorem Ak0:Fn Tryz.prog 305 .plain Ac4:=mkF [] trivial Tryz.func305 0
def Ajm:Av:=As [Fa] (fun d=>(Sy d.1).val) fun r=>([rv g_1 r],[])
theorem Auc:Fn Tryz.prog 183 .plain Ajm:=mkF [(305,.plain,Ac4)] ⟨Ak0,trivial⟩ Tryz.func183 0
def Ak1:Av:=As [g_8,g_3] (fun d=>(Aj7 d.1 d.2.1).val) fun r=>([rv g_1 r],[])
theorem Arj:Fn Tryz.prog 390 .plain Ak1:=mkF [] trivial Tryz.func390 0
def Ak2:Av:=As [g_8] (fun d=>(Aaq d.1).val) fun r=>([rv g_1 r],[])
def Sd:Fns:=[(66,.plain,Ca),(390,.plain,Ak1)]
theorem Ak3:CfgOk Tryz.prog (Ez Sd):=H7 Ri Me (show Mw Tryz.prog Sd from⟨By,Arj,trivial⟩)
def Ak4:Sk:=⟨[(1,.box 1 0),(4,.v false [(.int .i64,.nil)])],[(1,[(.int .i64,.nil),(.sl 3 [.int .i64],.ro)])],[]⟩
def Ak5:List (Ex×Sk):=[(.ret,⟨[(2,.v false [(.bool,.nil)])],[],[]⟩),((.exit 2),⟨[],[],[]⟩)]
def An2:Sk:=⟨[(1,.box 1 0),(3,.v false [(.int .i64,.nil)])],[(1,[(.int .i64,.nil),(.sl 3 [.int .i64],.ro)])],[]⟩
def An3:List (Ex×Sk):=[(.ret,⟨[(2,.v false [(.bool,.nil)])],[],[]⟩),((.exit 0),⟨[(1,.box 1 0)],[(1,[(.int .i64,.nil),(.sl 3 [.int .i64],.ro)])],[]⟩)]
def Se:Hv:=fun i st=>cond (Nat.beq i 4) (lam An2 5000000 An3 H4 st) <| cond (Nat.beq i 11) (lam Ak4 12000000 Ak5 Fy st) <| .fail
theorem Ayb (cx:Cx) (hp:cx.pin.length≤0):Fe Tryz.prog cx Tryz.f364.ntmps Se (Bk Tryz.f364 0):=Gt Ak3 hp (Ec (by kernel_rfl:Bx (Bk Tryz.f364 0)=[]) trivial) (by kernel_rfl) (fun d=>(by kernel_rfl:bod (Ez Sd) 0 Tryz.f364.ntmps Se (Bk Tryz.f364 0) An2 5000000 An3 d=H4 d))
theorem Aw2 (cx:Cx) (hp:cx.pin.length≤0):Fe Tryz.prog cx Tryz.f364.ntmps Se (Bk Tryz.f364 1):=Gt Ak3 hp (Ec (by kernel_rfl:Bx (Bk Tryz.f364 1)=[]) trivial) (by kernel_rfl) (fun d=>(by kernel_rfl:bod (Ez Sd) 0 Tryz.f364.ntmps Se (Bk Tryz.f364 1) Ak4 12000000 Ak5 d=Fy d))
theorem Ark:Fn Tryz.prog 364 .plain Ak2:=Wp Ak3 Tryz.func364 (by kernel_rfl) (by kernel_rfl) (fun cx b hp hb=>Ec (by kernel_rfl:Bx (Tryz.f364.body.getD .skip)=[Bk Tryz.f364 0,Bk Tryz.f364 1]) ⟨Ayb cx hp,Aw2 cx hp,trivial⟩ b hb) (fun d=>(by kernel_rfl:Ib (Ez Sd) 0 Se Tryz.f364 .plain (mkA [g_8] d)=(Aaq d.1).run fun r=>some ([rv g_1 r],[])))
def Ahs:Av:=As [g_9] (fun d=>(Api d.1).val) fun r=>([rv g_1 r],[])
theorem Ak6:Fn Tryz.prog 306 .plain Ahs:=mkF [(66,.plain,Ca),(364,.plain,Ak2)] ⟨By,Ark,trivial⟩ Tryz.func306 0
def Ow:Av:=As [Fa] (fun d=>(Afm d.1).val) fun r=>([rv g_1 r],[])
theorem Ro:Fn Tryz.prog 184 .plain Ow:=mkF [(66,.plain,Ca),(306,.plain,Ahs),(305,.plain,Ac4)] ⟨By,Ak6,Ak0,trivial⟩ Tryz.func184 0
def Jh:Av:=As [g_3] (fun d=>(Afn d.1).val) fun r=>([rv g_1 r],[])
theorem J9:Fn Tryz.prog 86 .plain Jh:=mkF [(66,.plain,Ca)] ⟨By,trivial⟩ Tryz.func86 0
def Wr:Av:=As [g_3,g_3] (fun d=>(Afo d.1 d.2.1).val) fun r=>([rv g_1 r],[])
theorem Ac5:Fn Tryz.prog 307 .plain Wr:=mkF [] trivial Tryz.func307 0
def Ka:Av:=As [g_7] (fun d=>(Ab2 d.1).val) fun r=>([rv g_1 r],[])
theorem K0:Fn Tryz.prog 185 .plain Ka:=mkF [(86,.plain,Jh),(66,.plain,Ca),(307,.plain,Wr)] ⟨J9,By,Ac5,trivial⟩ Tryz.func185 0
def Ws:Av:=As [g_0,g_0] (fun d=>(Arf d.1 d.2.1).val) fun r=>([rv g_1 r],[])
theorem Ac6:Fn Tryz.prog 84 .plain Ws:=mkF [] trivial Tryz.func84 0
def Ox:Av:=As [g_5] (fun d=>(Xc d.1).val) fun r=>([rv g_1 r],[])
theorem Td:Fn Tryz.prog 50 .plain Ox:=mkF [(66,.plain,Ca),(180,.plain,Sc),(67,.plain,Ahq),(181,.plain,Ac3),(182,.plain,Ad6),(183,.plain,Ajm),(184,.plain,Ow),(185,.plain,Ka),(84,.plain,Ws)] ⟨By,Wq,An0,Akz,Ari,Auc,Ro,K0,Ac6,trivial⟩ Tryz.func50 0
def K1:Av:=As [g_3] (fun d=>(Kq d.1).val) fun r=>([rv Ahp r],[])
theorem Mx:Fn Tryz.prog 170 .plain K1:=mkF [(66,.plain,Ca)] ⟨By,trivial⟩ Tryz.func170 0
def An4:Av:=As [g_5] (fun d=>(Ab3 d.1).val) fun r=>([rv g_7 r],[])
theorem Ayc:Fn Tryz.prog 171 .plain An4:=mkF [] trivial Tryz.func171 0
def Ayd:Av:=As [g_5,g_3,g_0] (fun d=>(Apj d.1 d.2.1 d.2.2.1).val) fun r=>([rv g_5 r.1,rv At9 r.2.1,rv Aua r.2.2.1,rv g_3 r.2.2.2],[])
theorem A6u:Fn Tryz.prog 45 .plain Ayd:=mkF [(169,.plain,Ac2),(50,.plain,Ox),(66,.plain,Ca),(170,.plain,K1),(171,.plain,An4)] ⟨Aky,Td,By,Mx,Ayc,trivial⟩ Tryz.func45 0
def Ad7:Av:=As [Ahp,g_3] (fun d=>(P0 d.1 d.2.1).val) fun r=>([rv g_1 r],[])
theorem Arl:Fn Tryz.prog 355 .plain Ad7:=mkF [(181,.plain,Ac3),(66,.plain,Ca)] ⟨Akz,By,trivial⟩ Tryz.func355 0
def Te:Av:=As [Ahp,g_3] (fun d=>(Sz d.1 d.2.1).val) fun r=>([rv Ahp r.1,rv g_3 r.2],[])
theorem Ad8:Fn Tryz.prog 287 .plain Te:=mkF [(355,.plain,Ad7)] ⟨Arl,trivial⟩ Tryz.func287 0
def Tf:Av:=As [g_2] (fun d=>(S1 d.1).val) fun r=>([rv g_7 r.1],[rv g_2 r.2])
theorem Ad9:Fn Tryz.prog 173 (.box [3] true true) Tf:=mkF [(128,(.box [3] true true),Ed),(175,(.box [3] true true),Cf)] ⟨Ee,B9,trivial⟩ Tryz.func173 1
def M9:Av:=As [g_0,g_3,g_3] (fun d=>(Apk d.1 d.2.1 d.2.2.1).val) fun r=>([rv g_0 r],[])
theorem Nm:Fn Tryz.prog 217 .plain M9:=De [] trivial ⟨[(1,.v false [(.int .i64,.nil)]),(7,.v false [(.sl 5 [.int .u8],(.own 6000000))]),(8,.v false [(.int .i64,.nil)])],[],[6000000]⟩ 6000000 [((.exit 0),⟨[(7,.v false [(.sl 5 [.int .u8],(.own 6000000))])],[],[6000000]⟩)] 5 N5 Tryz.func217 0
def A29:Av:=As [g_3] (fun d=>(Atv d.1).val) fun r=>([rv g_0 r],[])
theorem A9e:Fn Tryz.prog 394 .plain A29:=De [(217,.plain,M9)] ⟨Nm,trivial⟩ ⟨[(0,.v false [(.int .i64,.nil)]),(3,.v false [(.sl 5 [.int .u8],(.own 5000000))])],[],[5000000]⟩ 5000000 [((.exit 0),⟨[(0,.v false [(.int .i64,.nil)]),(3,.v false [(.sl 5 [.int .u8],(.own 5000000))])],[],[5000000]⟩)] 4 Aj8 Tryz.func394 0
def Avq:Av:=As [] (fun d=>(Avj).val) fun r=>([rv g_6 r],[])
theorem A4j:Fn Tryz.prog 395 .plain Avq:=mkF [] trivial Tryz.func395 0
def An5:Av:=As [g_6] (fun d=>(Ab5 d.1).val) fun r=>([rv g_1 r],[])
theorem Aye:Fn Tryz.prog 409 .plain An5:=De [(66,.plain,Ca)] ⟨By,trivial⟩ ⟨[(0,.v false [(.sl 3 [.int .i64],.ro)]),(3,.v false [(.int .i64,.nil)])],[],[]⟩ 3000000 [(.ret,⟨[(2,.v false [(.bool,.nil)])],[],[]⟩),((.exit 0),⟨[(0,.v false [(.sl 3 [.int .i64],.ro)])],[],[]⟩)] 2 Jt Tryz.func409 0
def A3a:Av:=As [] (fun d=>(A26).val) fun r=>([rv g_6 r],[])
theorem A9f:Fn Tryz.prog 410 .plain A3a:=mkF [] trivial Tryz.func410 0
def Ayf:Av:=As [g_0,g_3,g_3] (fun d=>(Apl d.1 d.2.1 d.2.2.1).val) fun r=>([rv g_3 r.1,rv g_3 r.2.1,rv g_1 r.2.2],[])
theorem A6v:Fn Tryz.prog 210 .plain Ayf:=De [] trivial ⟨[(0,.v false [(.sl 5 [.int .u8],.ro)]),(1,.v false [(.int .i64,.nil)]),(2,.v false [(.int .i64,.nil)]),(9,.v false [(.int .i64,.nil)]),(10,.v false [(.int .i64,.nil)])],[],[]⟩ 6000000 [((.exit 0),⟨[(1,.v false [(.int .i64,.nil)]),(2,.v false [(.int .i64,.nil)]),(9,.v false [(.int .i64,.nil)])],[],[]⟩)] 5 Ll Tryz.func210 0
def Aud:Av:=As [g_3,g_3] (fun d=>(Atx d.1 d.2.1).val) fun r=>([rv g_3 r],[])
theorem Ayg:Fn Tryz.prog 412 .plain Aud:=mkF [] trivial Tryz.func412 0
def Ak7:Av:=As [g_0] (fun d=>(N6 d.1).val) fun r=>([rv g_6 r],[])
def K2:Fns:=[(210,.plain,Ayf),(412,.plain,Aud)]
theorem Zt:CfgOk Tryz.prog (Ez K2):=H7 Ri Me (show Mw Tryz.prog K2 from⟨A6v,Ayg,trivial⟩)
def Aa2:Sk:=⟨[(3,.v false [(.sl 3 [.int .i64],(.own 11000000))]),(8,.v false [(.int .i64,.nil)])],[],[11000000]⟩
def Aa3:List (Ex×Sk):=[((.exit 2),⟨[(3,.v false [(.sl 3 [.int .i64],(.own 11000000))])],[],[11000000]⟩)]
def Aea:Sk:=⟨[(0,.v false [(.sl 5 [.int .u8],.ro)]),(3,.v false [(.sl 3 [.int .i64],(.own 6000000))]),(4,.v false [(.int .i64,.nil)])],[],[6000000]⟩
def Aeb:List (Ex×Sk):=[((.exit 0),⟨[(3,.v false [(.sl 3 [.int .i64],(.own 6000000))])],[],[6000000]⟩)]
def K3:Hv:=fun i st=>cond (Nat.beq i 5) (lam Aea 6000000 Aeb Gl st) <| cond (Nat.beq i 10) (lam Aa2 11000000 Aa3 F2 st) <| .fail
theorem Arm (cx:Cx) (hp:cx.pin.length≤0):Fe Tryz.prog cx Tryz.f411.ntmps K3 (Bk Tryz.f411 0):=Gt Zt hp (Ec (by kernel_rfl:Bx (Bk Tryz.f411 0)=[]) trivial) (by kernel_rfl) (fun d=>(by kernel_rfl:bod (Ez K2) 0 Tryz.f411.ntmps K3 (Bk Tryz.f411 0) Aea 6000000 Aeb d=Gl d))
theorem Ap7 (cx:Cx) (hp:cx.pin.length≤0):Fe Tryz.prog cx Tryz.f411.ntmps K3 (Bk Tryz.f411 1):=Gt Zt hp (Ec (by kernel_rfl:Bx (Bk Tryz.f411 1)=[]) trivial) (by kernel_rfl) (fun d=>(by kernel_rfl:bod (Ez K2) 0 Tryz.f411.ntmps K3 (Bk Tryz.f411 1) Aa2 11000000 Aa3 d=F2 d))
theorem Aw3:Fn Tryz.prog 411 .plain Ak7:=Wp Zt Tryz.func411 (by kernel_rfl) (by kernel_rfl) (fun cx b hp hb=>Ec (by kernel_rfl:Bx (Tryz.f411.body.getD .skip)=[Bk Tryz.f411 0,Bk Tryz.f411 1]) ⟨Arm cx hp,Ap7 cx hp,trivial⟩ b hb) (fun d=>(by kernel_rfl:Ib (Ez K2) 0 K3 Tryz.f411 .plain (mkA [g_0] d)=(N6 d.1).run fun r=>some ([rv g_6 r],[])))
def Ak8:Av:=As [g_6,g_0] (fun d=>(N7 d.1 d.2.1).val) fun r=>([rv g_6 r],[])
def K4:Fns:=[(409,.plain,An5),(410,.plain,A3a),(411,.plain,Ak7),(412,.plain,Aud)]
theorem Zu:CfgOk Tryz.prog (Ez K4):=H7 Ri Me (show Mw Tryz.prog K4 from⟨Aye,A9f,Aw3,Ayg,trivial⟩)
def Aa4:Sk:=⟨[(0,.v false [(.sl 3 [.int .i64],.ro)]),(5,.v false [(.sl 3 [.int .i64],(.own 23000000))]),(19,.v false [(.sl 3 [.int .i64],(.own 23000001))]),(20,.v false [(.int .i64,.nil)])],[],[23000000,23000001]⟩
def Aa5:List (Ex×Sk):=[((.exit 2),⟨[(5,.v false [(.sl 3 [.int .i64],(.own 23000000))])],[],[23000000]⟩)]
def Aec:Sk:=⟨[(0,.v false [(.sl 3 [.int .i64],.ro)]),(5,.v false [(.sl 3 [.int .i64],(.own 9000000))]),(6,.v false [(.sl 3 [.int .i64],(.own 9000001))]),(7,.v false [(.sl 3 [.int .i64],(.own 9000002))]),(8,.v false [(.int .i64,.nil)]),(9,.v false [(.int .i64,.nil)]),(10,.v false [(.int .i64,.nil)]),(11,.v false [(.int .i64,.nil)]),(12,.v false [(.int .i64,.nil)]),(13,.v false [(.int .i64,.nil)]),(14,.v false [(.int .i64,.nil)]),(15,.v false [(.int .i64,.nil)]),(16,.v false [(.int .i64,.nil)])],[],[9000000,9000001,9000002]⟩
def Aed:List (Ex×Sk):=[((.exit 0),⟨[(0,.v false [(.sl 3 [.int .i64],.ro)]),(5,.v false [(.sl 3 [.int .i64],(.own 9000000))]),(8,.v false [(.int .i64,.nil)]),(9,.v false [(.int .i64,.nil)]),(10,.v false [(.int .i64,.nil)]),(11,.v false [(.int .i64,.nil)]),(12,.v false [(.int .i64,.nil)]),(13,.v false [(.int .i64,.nil)]),(14,.v false [(.int .i64,.nil)]),(15,.v false [(.int .i64,.nil)])],[],[9000000]⟩)]
def K5:Hv:=fun i st=>cond (Nat.beq i 8) (lam Aec 9000000 Aed Fg st) <| cond (Nat.beq i 22) (lam Aa4 23000000 Aa5 Ew st) <| .fail
theorem Arn (cx:Cx) (hp:cx.pin.length≤0):Fe Tryz.prog cx Tryz.f396.ntmps K5 (Bk Tryz.f396 0):=Gt Zu hp (Ec (by kernel_rfl:Bx (Bk Tryz.f396 0)=[]) trivial) (by kernel_rfl) (fun d=>(by kernel_rfl:bod (Ez K4) 0 Tryz.f396.ntmps K5 (Bk Tryz.f396 0) Aec 9000000 Aed d=Fg d))
theorem Ap8 (cx:Cx) (hp:cx.pin.length≤0):Fe Tryz.prog cx Tryz.f396.ntmps K5 (Bk Tryz.f396 1):=Gt Zu hp (Ec (by kernel_rfl:Bx (Bk Tryz.f396 1)=[]) trivial) (by kernel_rfl) (fun d=>(by kernel_rfl:bod (Ez K4) 0 Tryz.f396.ntmps K5 (Bk Tryz.f396 1) Aa4 23000000 Aa5 d=Ew d))
theorem Aw4:Fn Tryz.prog 396 .plain Ak8:=Wp Zu Tryz.func396 (by kernel_rfl) (by kernel_rfl) (fun cx b hp hb=>Ec (by kernel_rfl:Bx (Tryz.f396.body.getD .skip)=[Bk Tryz.f396 0,Bk Tryz.f396 1]) ⟨Arn cx hp,Ap8 cx hp,trivial⟩ b hb) (fun d=>(by kernel_rfl:Ib (Ez K4) 0 K5 Tryz.f396 .plain (mkA [g_6,g_0] d)=(N7 d.1 d.2.1).run fun r=>some ([rv g_6 r],[])))
def Avr:Av:=As [g_6] (fun d=>(Aj9 d.1).val) fun r=>([rv g_0 r],[])
theorem A4k:Fn Tryz.prog 397 .plain Avr:=De [(217,.plain,M9)] ⟨Nm,trivial⟩ ⟨[(0,.v false [(.sl 3 [.int .i64],.ro)]),(3,.v false [(.sl 5 [.int .u8],(.own 4000000))]),(4,.v false [(.int .i64,.nil)])],[],[4000000]⟩ 4000000 [((.exit 0),⟨[(3,.v false [(.sl 5 [.int .u8],(.own 4000000))])],[],[4000000]⟩)] 3 J4 Tryz.func397 0
def Aue:Av:=As [g_0] (fun d=>(Aty d.1).val) fun r=>([rv g_0 r],[])
theorem Ayh:Fn Tryz.prog 371 .plain Aue:=De [(394,.plain,A29),(395,.plain,Avq),(396,.plain,Ak8),(397,.plain,Avr)] ⟨A9e,A4j,Aw4,A4k,trivial⟩ ⟨[(3,.v false [(.sl 5 [.int .u8],(.own 7000000))]),(4,.v false [(.sl 3 [.int .i64],(.own 7000001))]),(5,.v false [(.int .i64,.nil)])],[],[7000000,7000001]⟩ 7000000 [((.exit 0),⟨[(4,.v false [(.sl 3 [.int .i64],(.own 7000000))])],[],[7000000]⟩)] 6 Nj Tryz.func371 0
def Ak9:Av:=As [g_0] (fun d=>(Xe d.1).val) fun r=>([rv g_0 r],[])
theorem Aw5:Fn Tryz.prog 370 .plain Ak9:=De [(371,.plain,Aue)] ⟨Ayh,trivial⟩ ⟨[(3,.v false [(.sl 5 [.int .u8],(.own 7000000))])],[],[7000000]⟩ 7000000 [((.exit 0),⟨[(3,.v false [(.sl 5 [.int .u8],(.own 7000000))])],[],[7000000]⟩)] 6 Lm Tryz.func370 0
def Zv:Av:=As [g_0,g_0] (fun d=>(Apn d.1 d.2.1).val) fun r=>([rv g_0 r],[])
theorem Aa6:Fn Tryz.prog 319 .plain Zv:=De [(370,.plain,Ak9),(371,.plain,Aue)] ⟨Aw5,Ayh,trivial⟩ ⟨[(1,.v false [(.sl 5 [.int .u8],.ro)]),(5,.v false [(.sl 5 [.int .u8],(.own 8000000))]),(6,.v false [(.sl 5 [.int .u8],(.own 8000001))]),(7,.v false [(.sl 5 [.int .u8],(.own 8000002))]),(8,.v false [(.int .i64,.nil)])],[],[8000000,8000001,8000002]⟩ 8000000 [((.exit 0),⟨[(1,.v false [(.sl 5 [.int .u8],.ro)]),(6,.v false [(.sl 5 [.int .u8],(.own 8000000))]),(7,.v false [(.sl 5 [.int .u8],(.own 8000001))])],[],[8000000,8000001]⟩)] 7 Ln Tryz.func319 0
def Ac7:Av:=As [g_0,g_0] (fun d=>(Q7 d.1 d.2.1).val) fun r=>([rv g_0 r],[])
theorem Ala:Fn Tryz.prog 226 .plain Ac7:=mkF [(319,.plain,Zv)] ⟨Aa6,trivial⟩ Tryz.func226 0
def Aro:Av:=As [g_0,g_0,g_3] (fun d=>(Afq d.1 d.2.1 d.2.2.1).val) fun r=>([rv g_0 r.1,rv g_1 r.2],[])
theorem A1j:Fn Tryz.prog 324 .plain Aro:=De [(66,.plain,Ca),(319,.plain,Zv)] ⟨By,Aa6,trivial⟩ ⟨[(0,.v false [(.sl 5 [.int .u8],.ro)]),(1,.v false [(.sl 5 [.int .u8],.ro)]),(2,.v false [(.int .i64,.nil)]),(8,.v false [(.sl 5 [.int .u8],(.own 7000000))]),(9,.v false [(.sl 5 [.int .u8],(.own 7000001))]),(10,.v false [(.int .i64,.nil)])],[],[7000000,7000001]⟩ 7000000 [((.exit 0),⟨[(2,.v false [(.int .i64,.nil)]),(8,.v false [(.sl 5 [.int .u8],(.own 7000000))])],[],[7000000]⟩)] 6 Ig Tryz.func324 0
def Oy:Av:=As [g_0,Bb9] (fun d=>(Afs d.1 d.2.1).val) fun r=>([rv g_0 r],[])
theorem Rp:Fn Tryz.prog 225 .plain Oy:=mkF [(324,.plain,Aro)] ⟨A1j,trivial⟩ Tryz.func225 0
def Tg:Av:=As [g_0] (fun d=>(S2 d.1).val) fun r=>([rv g_0 r],[])
theorem Aee:Fn Tryz.prog 82 .plain Tg:=mkF [(180,.plain,Sc),(226,.plain,Ac7),(225,.plain,Oy)] ⟨Wq,Ala,Rp,trivial⟩ Tryz.func82 0
def Th:Av:=As [g_3,g_0,g_0,g_3,g_0] (fun d=>(S3 d.1 d.2.1 d.2.2.1 d.2.2.2.1 d.2.2.2.2.1).val) fun r=>([rv g_0 r],[])
theorem Aef:Fn Tryz.prog 83 .plain Th:=mkF [(66,.plain,Ca),(217,.plain,M9)] ⟨By,Nm,trivial⟩ Tryz.func83 0
def Am9:Av:=As [g_0,g_0] (fun d=>(Atz d.1 d.2.1).val) fun r=>([rv g_0 r],[])
theorem Ap9:Fn Tryz.prog 215 .plain Am9:=mkF [(319,.plain,Zv)] ⟨Aa6,trivial⟩ Tryz.func215 0
def Avs:Av:=As [g_0,g_3,g_0,g_0,g_3,g_0] (fun d=>(Akb d.1 d.2.1 d.2.2.1 d.2.2.2.1 d.2.2.2.2.1 d.2.2.2.2.2.1).val) fun r=>([rv g_0 r],[])
theorem A4l:Fn Tryz.prog 220 .plain Avs:=mkF [(82,.plain,Tg),(83,.plain,Th),(215,.plain,Am9)] ⟨Aee,Aef,Ap9,trivial⟩ Tryz.func220 0
def Alb:Av:=As [g_0,g_3,g_7] (fun d=>(Xg d.1 d.2.1 d.2.2.1).val) fun r=>([rv g_7 r.1,rv g_1 r.2],[])
theorem Aw6:Fn Tryz.prog 263 .plain Alb:=mkF [(185,.plain,Ka),(220,.plain,Avs),(296,.plain,Ou)] ⟨K0,A4l,Rl,trivial⟩ Tryz.func263 0
def An6:Av:=As [g_0,g_0,g_0] (fun d=>(Ab7 d.1 d.2.1 d.2.2.1).val) fun r=>([rv g_0 r],[])
theorem Ayi:Fn Tryz.prog 322 .plain An6:=mkF [(180,.plain,Sc),(226,.plain,Ac7)] ⟨Wq,Ala,trivial⟩ Tryz.func322 0
def Alc:Av:=As [g_0] (fun d=>(Xi d.1).val) fun r=>([rv g_0 r],[])
theorem Aw7:Fn Tryz.prog 321 .plain Alc:=mkF [(225,.plain,Oy)] ⟨Rp,trivial⟩ Tryz.func321 0
def Avt:Av:=As [g_0,g_3] (fun d=>(Akd d.1 d.2.1).val) fun r=>([rv g_0 r],[])
theorem A4m:Fn Tryz.prog 323 .plain Avt:=De [(66,.plain,Ca),(225,.plain,Oy)] ⟨By,Rp,trivial⟩ ⟨[(1,.v false [(.int .i64,.nil)]),(5,.v false [(.sl 5 [.int .u8],(.own 6000000))]),(6,.v false [(.int .i64,.nil)])],[],[6000000]⟩ 6000000 [((.exit 0),⟨[(5,.v false [(.sl 5 [.int .u8],(.own 6000000))])],[],[6000000]⟩)] 5 J5 Tryz.func323 0
def Ald:Av:=As [g_0,g_0,g_0,g_3] (fun d=>(Xk d.1 d.2.1 d.2.2.1 d.2.2.2.1).val) fun r=>([rv g_0 r],[])
theorem Aw8:Fn Tryz.prog 222 .plain Ald:=mkF [(322,.plain,An6),(321,.plain,Alc),(323,.plain,Avt)] ⟨Ayi,Aw7,A4m,trivial⟩ Tryz.func222 0
def Aht:Av:=As [] (fun d=>(Aft).val) fun r=>([rv g_8 r],[])
theorem An7:Fn Tryz.prog 360 .plain Aht:=De [] trivial ⟨[(0,.box 0 0),(1,.box 1 0),(2,.v false [(.int .i64,.nil)])],[(0,[(.int .i64,.nil),(.sl 3 [.int .i64],(.own 4000000))]),(1,[(.int .i64,.nil),(.sl 3 [.int .i64],(.own 4000001))])],[4000000,4000001]⟩ 4000000 [((.exit 0),⟨[(0,.box 0 0),(1,.box 1 0)],[(0,[(.int .i64,.nil),(.sl 3 [.int .i64],(.own 4000000))]),(1,[(.int .i64,.nil),(.sl 3 [.int .i64],(.own 4000001))])],[4000000,4000001]⟩)] 3 Ih Tryz.func360 0
def Nn:Av:=As [g_3,g_0] (fun d=>(Rz d.1 d.2.1).val) fun r=>([rv g_9 r],[])
theorem Oz:Fn Tryz.prog 299 .plain Nn:=mkF [(66,.plain,Ca),(360,.plain,Aht)] ⟨By,An7,trivial⟩ Tryz.func299 0
def Ac8:Av:=As [g_3,g_0,g_0] (fun d=>(Q9 d.1 d.2.1 d.2.2.1).val) fun r=>([rv Fa r],[])
theorem Ale:Fn Tryz.prog 221 .plain Ac8:=mkF [(66,.plain,Ca),(299,.plain,Nn)] ⟨By,Oz,trivial⟩ Tryz.func221 0
def Aqa:Av:=As [g_0,g_0] (fun d=>(Apo d.1 d.2.1).val) fun r=>([rv Ap5 r],[])
theorem Avu:Fn Tryz.prog 74 .plain Aqa:=mkF [] trivial Tryz.func74 0
def O0:Av:=As [g_3,g_0,g_3,g_3] (fun d=>(Afv d.1 d.2.1 d.2.2.1 d.2.2.2.1).val) fun r=>([rv g_0 r],[])
theorem Rq:Fn Tryz.prog 312 .plain O0:=mkF [(66,.plain,Ca),(217,.plain,M9)] ⟨By,Nm,trivial⟩ Tryz.func312 0
def Iv:Av:=As [g_3,g_7] (fun d=>(Xm d.1 d.2.1).val) fun r=>([rv g_0 r],[])
theorem Jy:Fn Tryz.prog 190 .plain Iv:=mkF [(66,.plain,Ca),(185,.plain,Ka),(86,.plain,Jh),(312,.plain,O0)] ⟨By,K0,J9,Rq,trivial⟩ Tryz.func190 0
def An8:Av:=As [g_3] (fun d=>(Ab9 d.1).val) fun r=>([rv g_3 r],[])
theorem Ayj:Fn Tryz.prog 391 .plain An8:=mkF [] trivial Tryz.func391 0
def Ahu:Av:=As [g_8,g_3] (fun d=>(Afw d.1 d.2.1).val) fun r=>([rv g_1 r],[])
theorem An9:Fn Tryz.prog 365 .plain Ahu:=mkF [(364,.plain,Ak2),(66,.plain,Ca),(391,.plain,An8),(390,.plain,Ak1)] ⟨Ark,By,Ayj,Arj,trivial⟩ Tryz.func365 0
def Ayk:Av:=As [g_0,g_0] (fun d=>(App d.1 d.2.1).val) fun r=>([rv g_3 r],[])
theorem A6w:Fn Tryz.prog 320 .plain Ayk:=De [] trivial ⟨[(0,.v false [(.sl 5 [.int .u8],.ro)]),(1,.v false [(.sl 5 [.int .u8],.ro)]),(5,.v false [(.int .i64,.nil)]),(6,.v false [(.int .i64,.nil)])],[],[]⟩ 6000000 [((.exit 0),⟨[(5,.v false [(.int .i64,.nil)])],[],[]⟩)] 5 Oa Tryz.func320 0
def Aoa:Av:=As [g_0,g_0] (fun d=>(Aca d.1 d.2.1).val) fun r=>([rv g_1 r],[])
theorem Ayl:Fn Tryz.prog 219 .plain Aoa:=mkF [(320,.plain,Ayk)] ⟨A6w,trivial⟩ Tryz.func219 0
def Aob:Av:=As [g_0,g_0,g_3] (fun d=>(Acc d.1 d.2.1 d.2.2.1).val) fun r=>([rv g_0 r],[])
theorem Aym:Fn Tryz.prog 405 .plain Aob:=mkF [(66,.plain,Ca),(217,.plain,M9),(319,.plain,Zv)] ⟨By,Nm,Aa6,trivial⟩ Tryz.func405 0
def Arp:Av:=As [g_0,g_0,g_3] (fun d=>(Afx d.1 d.2.1 d.2.2.1).val) fun r=>([rv g_0 r],[])
theorem A1k:Fn Tryz.prog 380 .plain Arp:=De [(66,.plain,Ca),(405,.plain,Aob)] ⟨By,Aym,trivial⟩ ⟨[(0,.v false [(.sl 5 [.int .u8],.ro)]),(1,.v false [(.sl 5 [.int .u8],.ro)]),(2,.v false [(.int .i64,.nil)]),(7,.v false [(.sl 5 [.int .u8],(.own 6000000))]),(8,.v false [(.int .i64,.nil)])],[],[6000000]⟩ 6000000 [((.exit 0),⟨[(2,.v false [(.int .i64,.nil)]),(7,.v false [(.sl 5 [.int .u8],(.own 6000000))])],[],[6000000]⟩)] 5 Ii Tryz.func380 0
def Auf:Av:=As [g_0,g_0,g_0] (fun d=>(At0 d.1 d.2.1 d.2.2.1).val) fun r=>([rv g_0 r],[])
theorem Ayn:Fn Tryz.prog 343 .plain Auf:=De [(380,.plain,Arp)] ⟨A1k,trivial⟩ ⟨[(2,.v false [(.sl 5 [.int .u8],.ro)]),(7,.v false [(.sl 5 [.int .u8],(.own 7000000))]),(8,.v false [(.sl 5 [.int .u8],(.own 7000001))]),(9,.v false [(.int .i64,.nil)])],[],[7000000,7000001]⟩ 7000000 [((.exit 0),⟨[(7,.v false [(.sl 5 [.int .u8],(.own 7000000))])],[],[7000000]⟩)] 6 Nk Tryz.func343 0
def Arq:Av:=As [g_0,g_3,g_7] (fun d=>(Afz d.1 d.2.1 d.2.2.1).val) fun r=>([rv g_0 r.1,rv g_1 r.2],[])
theorem A1l:Fn Tryz.prog 366 .plain Arq:=mkF [(190,.plain,Iv),(215,.plain,Am9),(219,.plain,Aoa),(312,.plain,O0),(343,.plain,Auf)] ⟨Jy,Ap9,Ayl,Rq,Ayn,trivial⟩ Tryz.func366 0
def Ahv:Av:=As [g_8,g_3] (fun d=>(Af1 d.1 d.2.1).val) fun r=>([rv g_8 r.1,rv g_1 r.2],[])
theorem Aoc:Fn Tryz.prog 367 .plain Ahv:=De [(389,.plain,Ahr),(365,.plain,Ahu)] ⟨An1,An9,trivial⟩ ⟨[(1,.v false [(.int .i64,.nil)]),(2,.box 2 0),(4,.box 4 0),(6,.box 6 0),(7,.v false [(.int .i64,.nil)]),(8,.v false [(.int .i64,.nil)])],[(2,[(.int .i64,.nil),(.sl 3 [.int .i64],.ro)]),(4,[(.int .i64,.nil),(.sl 3 [.int .i64],(.own 7000000))]),(6,[(.int .i64,.nil),(.sl 3 [.int .i64],(.own 7000001))])],[7000000,7000001]⟩ 7000000 [((.exit 0),⟨[(1,.v false [(.int .i64,.nil)]),(2,.box 2 0),(4,.box 4 0),(6,.box 6 0)],[(2,[(.int .i64,.nil),(.sl 3 [.int .i64],.ro)]),(4,[(.int .i64,.nil),(.sl 3 [.int .i64],(.own 7000000))]),(6,[(.int .i64,.nil),(.sl 3 [.int .i64],(.own 7000001))])],[7000000,7000001]⟩)] 6 Ij Tryz.func367 0
def Arr:Av:=As [g_9,g_3,g_7] (fun d=>(Af2 d.1 d.2.1 d.2.2.1).val) fun r=>([rv g_9 r.1,rv g_0 r.2.1,rv g_3 r.2.2],[])
theorem A1m:Fn Tryz.prog 311 .plain Arr:=mkF [(358,.plain,Ov),(306,.plain,Ahs),(190,.plain,Iv),(365,.plain,Ahu),(366,.plain,Arq),(367,.plain,Ahv)] ⟨Rm,Ak6,Jy,An9,A1l,Aoc,trivial⟩ Tryz.func311 0
def Alf:Av:=As [Fa,g_3,g_7] (fun d=>(Oc d.1 d.2.1 d.2.2.1).val) fun r=>([rv Fa r.1,rv g_0 r.2.1,rv g_3 r.2.2],[])
theorem Aw9:Fn Tryz.prog 188 .plain Alf:=mkF [(297,.plain,Rn),(184,.plain,Ow),(66,.plain,Ca),(185,.plain,Ka),(86,.plain,Jh),(84,.plain,Ws),(311,.plain,Arr),(299,.plain,Nn)] ⟨Zs,Ro,By,K0,J9,Ac6,A1m,Oz,trivial⟩ Tryz.func188 0
def Ars:Av:=As [Fa,g_3] (fun d=>(Af3 d.1 d.2.1).val) fun r=>([rv g_0 r.1,rv g_1 r.2],[])
theorem A1n:Fn Tryz.prog 189 .plain Ars:=mkF [(184,.plain,Ow)] ⟨Ro,trivial⟩ Tryz.func189 0
def Ayo:Av:=As [g_0,g_0,g_0] (fun d=>(Apr d.1 d.2.1 d.2.2.1).val) fun r=>([rv Ap5 r],[])
theorem A6x:Fn Tryz.prog 81 .plain Ayo:=mkF [] trivial Tryz.func81 0
def Ahw:Av:=As [g_0,g_3,g_0,g_3,g_3,g_3,g_0] (fun d=>(Af4 d.1 d.2.1 d.2.2.1 d.2.2.2.1 d.2.2.2.2.1 d.2.2.2.2.2.1 d.2.2.2.2.2.2.1).val) fun r=>([rv g_7 r.1,rv g_1 r.2],[])
def Ahx:Fns:=[(312,.plain,O0),(86,.plain,Jh),(307,.plain,Wr),(343,.plain,Auf),(190,.plain,Iv),(215,.plain,Am9)]
theorem Ayp:CfgOk Tryz.prog (Ez Ahx):=H7 Ri Me (show Mw Tryz.prog Ahx from⟨Rq,J9,Ac5,Ayn,Jy,Ap9,trivial⟩)
def Art:Sk:=⟨[(0,.v false [(.sl 5 [.int .u8],.ro)]),(1,.v false [(.int .i64,.nil)]),(14,.box 14 0),(17,.box 17 0),(18,.v false [(.int .i64,.nil)])],[(14,[(.int .i64,.nil),(.int .i64,.nil),(.sl 5 [.int .u8],(.own 7000000)),(.sl 5 [.int .u8],(.own 7000001)),(.int .i64,.nil),(.sl 5 [.int .u8],(.own 7000002)),(.sl 5 [.int .u8],(.own 7000003)),(.int .i64,.nil),(.int .i64,.nil),(.sl 5 [.int .u8],(.own 7000004)),(.sl 5 [.int .u8],(.own 7000005))]),(17,[(.int .i64,.nil),(.int .i64,.nil),(.sl 5 [.int .u8],(.own 7000006)),(.sl 5 [.int .u8],(.own 7000007)),(.int .i64,.nil),(.sl 5 [.int .u8],(.own 7000008)),(.sl 5 [.int .u8],(.own 7000009)),(.int .i64,.nil),(.int .i64,.nil),(.sl 5 [.int .u8],(.own 7000010)),(.sl 5 [.int .u8],(.own 7000011))])],[7000000,7000001,7000002,7000003,7000004,7000005,7000006,7000007,7000008,7000009,7000010,7000011]⟩
def Aru:List (Ex×Sk):=[((.exit 0),⟨[(0,.v false [(.sl 5 [.int .u8],.ro)]),(1,.v false [(.int .i64,.nil)]),(14,.box 14 0),(17,.box 17 0)],[(14,[(.int .i64,.nil),(.int .i64,.nil),(.sl 5 [.int .u8],(.own 7000000)),(.sl 5 [.int .u8],(.own 7000001)),(.int .i64,.nil),(.sl 5 [.int .u8],(.own 7000002)),(.sl 5 [.int .u8],(.own 7000003)),(.int .i64,.nil),(.int .i64,.nil),(.sl 5 [.int .u8],(.own 7000004)),(.sl 5 [.int .u8],(.own 7000005))]),(17,[(.int .i64,.nil),(.int .i64,.nil),(.sl 5 [.int .u8],(.own 7000006)),(.sl 5 [.int .u8],(.own 7000007)),(.int .i64,.nil),(.sl 5 [.int .u8],(.own 7000008)),(.sl 5 [.int .u8],(.own 7000009)),(.int .i64,.nil),(.int .i64,.nil),(.sl 5 [.int .u8],(.own 7000010)),(.sl 5 [.int .u8],(.own 7000011))])],[7000000,7000001,7000002,7000003,7000004,7000005,7000006,7000007,7000008,7000009,7000010,7000011]⟩)]
def Aqb:Hv:=fun i st=>cond (Nat.beq i 6) (lam Art 7000000 Aru Jc st) <| .fail
theorem A1o (cx:Cx) (hp:cx.pin.length≤0):Fe Tryz.prog cx Tryz.f266.ntmps Aqb (Bk Tryz.f266 0):=Gt Ayp hp (Ec (by kernel_rfl:Bx (Bk Tryz.f266 0)=[]) trivial) (by kernel_rfl) (fun d=>(by kernel_rfl:bod (Ez Ahx) 0 Tryz.f266.ntmps Aqb (Bk Tryz.f266 0) Art 7000000 Aru d=Jc d))
theorem Alg:Fn Tryz.prog 266 .plain Ahw:=Wp Ayp Tryz.func266 (by kernel_rfl) (by kernel_rfl) (fun cx b hp hb=>Ec (by kernel_rfl:Bx (Tryz.f266.body.getD .skip)=[Bk Tryz.f266 0]) ⟨A1o cx hp,trivial⟩ b hb) (fun d=>(by kernel_rfl:Ib (Ez Ahx) 0 Aqb Tryz.f266 .plain (mkA [g_0,g_3,g_0,g_3,g_3,g_3,g_0] d)=(Af4 d.1 d.2.1 d.2.2.1 d.2.2.2.1 d.2.2.2.2.1 d.2.2.2.2.2.1 d.2.2.2.2.2.2.1).run fun r=>some ([rv g_7 r.1,rv g_1 r.2],[])))
def Arv:Av:=As [g_9,g_3,g_0,g_3,g_0] (fun d=>(Af5 d.1 d.2.1 d.2.2.1 d.2.2.2.1 d.2.2.2.2.1).val) fun r=>([rv g_9 r.1,rv g_7 r.2.1,rv g_3 r.2.2],[])
theorem A1p:Fn Tryz.prog 317 .plain Arv:=mkF [(358,.plain,Ov),(306,.plain,Ahs),(312,.plain,O0),(86,.plain,Jh),(307,.plain,Wr),(266,.plain,Ahw)] ⟨Rm,Ak6,Rq,J9,Ac5,Alg,trivial⟩ Tryz.func317 0
def Alh:Av:=As [Fa,g_3,g_0] (fun d=>(Xn d.1 d.2.1 d.2.2.1).val) fun r=>([rv Fa r.1,rv g_7 r.2.1,rv g_3 r.2.2],[])
theorem Axa:Fn Tryz.prog 196 .plain Alh:=mkF [(297,.plain,Rn),(184,.plain,Ow),(317,.plain,Arv)] ⟨Zs,Ro,A1p,trivial⟩ Tryz.func196 0
def Aod:Av:=As [Fa,g_7] (fun d=>(Ace d.1 d.2.1).val) fun r=>([rv Ap5 r],[])
theorem Ayq:Fn Tryz.prog 194 .plain Aod:=mkF [(190,.plain,Iv),(74,.plain,Aqa)] ⟨Jy,Avu,trivial⟩ Tryz.func194 0
def Aeg:Av:=As [g_5,g_3,g_7] (fun d=>(Qc d.1 d.2.1 d.2.2.1).val) fun r=>([rv g_5 r.1,rv At9 r.2.1,rv Aua r.2.2],[])
theorem Arw:Fn Tryz.prog 288 .plain Aeg:=mkF [(169,.plain,Ac2),(50,.plain,Ox),(66,.plain,Ca),(185,.plain,Ka),(84,.plain,Ws),(263,.plain,Alb),(222,.plain,Ald),(221,.plain,Ac8),(170,.plain,K1),(82,.plain,Tg),(83,.plain,Th),(74,.plain,Aqa),(296,.plain,Ou),(86,.plain,Jh),(188,.plain,Alf),(189,.plain,Ars),(190,.plain,Iv),(81,.plain,Ayo),(196,.plain,Alh),(194,.plain,Aod)] ⟨Aky,Td,By,K0,Ac6,Aw6,Aw8,Ale,Mx,Aee,Aef,Avu,Rl,J9,Aw9,A1n,Jy,A6x,Axa,Ayq,trivial⟩ Tryz.func288 0
def Ajn:Av:=As [g_3] (fun d=>(S4 d.1).val) fun r=>([rv g_0 r],[])
theorem Aug:Fn Tryz.prog 267 .plain Ajn:=mkF [(66,.plain,Ca),(217,.plain,M9)] ⟨By,Nm,trivial⟩ Tryz.func267 0
def Ji:Av:=As [g_2,g_3] (fun d=>(Af7 d.1 d.2.1).val) fun r=>([rv g_1 r.1],[rv g_2 r.2])
theorem Kb:Fn Tryz.prog 167 (.box [3] true true) Ji:=mkF [(175,(.box [3] true true),Cf)] ⟨B9,trivial⟩ Tryz.func167 1
def Arx:Av:=As [g_2,g_3] (fun d=>(Af8 d.1 d.2.1).val) fun r=>([rv g_6 r.1],[rv g_2 r.2])
theorem A1q:Fn Tryz.prog 379 (.box [3] true true) Arx:=De [(127,(.box [3] true true),C9),(175,(.box [3] true true),Cf),(167,(.box [3] true true),Ji)] ⟨C5,B9,Kb,trivial⟩ ⟨[(0,.box 0 0),(5,.v false [(.sl 3 [.int .i64],(.own 5000000))]),(6,.v false [(.int .i64,.nil)]),(7,.v false [(.int .i64,.nil)])],[(0,[(.sl 5 [.int .u8],(.pin 0)),(.int .i64,.nil),(.int .i64,.nil)])],[5000000]⟩ 5000000 [((.exit 0),⟨[(0,.box 0 0),(5,.v false [(.sl 3 [.int .i64],(.own 5000000))])],[(0,[(.sl 5 [.int .u8],(.pin 0)),(.int .i64,.nil),(.int .i64,.nil)])],[5000000]⟩)] 4 Od Tryz.func379 1
def Avv:Av:=As [g_6] (fun d=>(Akf d.1).val) fun r=>([rv g_8 r],[])
theorem A4n:Fn Tryz.prog 378 .plain Avv:=De [(360,.plain,Aht),(367,.plain,Ahv)] ⟨An7,Aoc,trivial⟩ ⟨[(0,.v false [(.sl 3 [.int .i64],.ro)]),(2,.box 2 0),(3,.box 3 0),(4,.v false [(.int .i64,.nil)])],[(2,[(.int .i64,.nil),(.sl 3 [.int .i64],(.own 4000000))]),(3,[(.int .i64,.nil),(.sl 3 [.int .i64],(.own 4000001))])],[4000000,4000001]⟩ 4000000 [((.exit 0),⟨[(2,.box 2 0),(3,.box 3 0)],[(2,[(.int .i64,.nil),(.sl 3 [.int .i64],(.own 4000000))]),(3,[(.int .i64,.nil),(.sl 3 [.int .i64],(.own 4000001))])],[4000000,4000001]⟩)] 3 Ra Tryz.func378 0
def Wt:Av:=As [g_2] (fun d=>(Aga d.1).val) fun r=>([rv g_8 r.1],[rv g_2 r.2])
theorem Ac9:Fn Tryz.prog 342 (.box [3] true true) Wt:=mkF [(379,(.box [3] true true),Arx),(378,.plain,Avv)] ⟨A1q,A4n,trivial⟩ Tryz.func342 1
def Ada:Av:=As [g_2,g_3] (fun d=>(Acf d.1 d.2.1).val) fun r=>([rv Fa r.1],[rv g_2 r.2])
theorem Ali:Fn Tryz.prog 264 (.box [3] true true) Ada:=mkF [(128,(.box [3] true true),Ed),(221,.plain,Ac8),(127,(.box [3] true true),C9),(167,(.box [3] true true),Ji),(342,(.box [3] true true),Wt),(225,.plain,Oy),(299,.plain,Nn)] ⟨Ee,Ale,C5,Kb,Ac9,Rp,Oz,trivial⟩ Tryz.func264 1
def Adb:Av:=As [g_2,g_3] (fun d=>(Acg d.1 d.2.1).val) fun r=>([rv Ahp r.1],[rv g_2 r.2])
theorem Alj:Fn Tryz.prog 289 (.box [3] true true) Adb:=De [(170,.plain,K1),(175,(.box [3] true true),Cf),(287,.plain,Te)] ⟨Mx,B9,Ad8,trivial⟩ ⟨[(0,.box 0 0),(4,.box 4 0),(5,.box 5 0),(6,.v false [(.int .i64,.nil)])],[(0,[(.sl 5 [.int .u8],(.pin 0)),(.int .i64,.nil),(.int .i64,.nil)]),(4,[(.bool,.nil),(.int .i64,.nil),(.int .i64,.nil),(.int .i64,.nil)]),(5,[(.bool,.nil),(.int .i64,.nil),(.int .i64,.nil),(.int .i64,.nil)])],[]⟩ 4000000 [((.exit 0),⟨[(0,.box 0 0),(4,.box 4 0),(5,.box 5 0)],[(0,[(.sl 5 [.int .u8],(.pin 0)),(.int .i64,.nil),(.int .i64,.nil)]),(4,[(.bool,.nil),(.int .i64,.nil),(.int .i64,.nil),(.int .i64,.nil)]),(5,[(.bool,.nil),(.int .i64,.nil),(.int .i64,.nil),(.int .i64,.nil)])],[]⟩)] 3 Mt Tryz.func289 1
def Aoe:Av:=As [g_2] (fun d=>(Rd d.1).val) fun r=>([rv g_5 r.1],[rv g_2 r.2])
def Rr:Fns:=[(175,(.box [3] true true),Cf),(128,(.box [3] true true),Ed),(197,.plain,Ap6),(286,.plain,Ajl),(127,(.box [3] true true),C9),(45,.plain,Ayd),(287,.plain,Te),(173,(.box [3] true true),Tf),(288,.plain,Aeg),(170,.plain,K1),(267,.plain,Ajn),(266,.plain,Ahw),(167,(.box [3] true true),Ji),(264,(.box [3] true true),Ada),(289,(.box [3] true true),Adb)]
theorem Aof:CfgOk Tryz.prog (Ez Rr):=H7 Ri Me (show Mw Tryz.prog Rr from⟨B9,Ee,Avo,Aub,C5,A6u,Ad8,Ad9,Arw,Mx,Aug,Alg,Kb,Ali,Alj,trivial⟩)
def Aeh:Sk:=⟨[(0,.box 0 0),(2,.box 2 0),(3,.box 3 0),(5,.v false [(.int .i64,.nil)]),(7,.v false [(.int .i64,.nil)])],[(0,[(.sl 5 [.int .u8],(.pin 0)),(.int .i64,.nil),(.int .i64,.nil)]),(2,[(.int .i64,.nil),(.sl 5 [.int .u8],(.own 16000000)),(.int .i64,.nil),(.int .i64,.nil),(.int .i64,.nil),(.sl 5 [.int .u8],(.own 16000001)),(.int .i64,.nil),(.int .i64,.nil),(.sl 5 [.int .u8],(.own 16000002)),(.sl 5 [.int .u8],(.own 16000003)),(.int .i64,.nil),(.sl 5 [.int .u8],(.own 16000004)),(.sl 5 [.int .u8],(.own 16000005)),(.int .i64,.nil),(.int .i64,.nil),(.sl 5 [.int .u8],(.own 16000006)),(.sl 5 [.int .u8],(.own 16000007)),(.int .i64,.nil),(.sl 5 [.int .u8],(.own 16000008)),(.int .i64,.nil),(.sl 5 [.int .u8],(.own 16000009)),(.int .i64,.nil),(.int .i64,.nil),(.sl 3 [.int .i64],(.own 16000010)),(.int .i64,.nil),(.sl 5 [.int .u8],(.own 16000011)),(.int .i64,.nil),(.int .i64,.nil),(.sl 3 [.int .i64],(.own 16000012)),(.bool,.nil),(.int .i64,.nil),(.sl 5 [.int .u8],(.own 16000013)),(.bool,.nil),(.int .i64,.nil),(.int .i64,.nil),(.int .i64,.nil),(.bool,.nil),(.int .i64,.nil),(.int .i64,.nil),(.int .i64,.nil),(.int .i64,.nil)]),(3,[(.int .i64,.nil),(.sl 5 [.int .u8],(.own 16000014)),(.int .i64,.nil),(.int .i64,.nil),(.int .i64,.nil),(.sl 5 [.int .u8],(.own 16000015)),(.int .i64,.nil),(.int .i64,.nil),(.sl 5 [.int .u8],(.own 16000016)),(.sl 5 [.int .u8],(.own 16000017)),(.int .i64,.nil),(.sl 5 [.int .u8],(.own 16000018)),(.sl 5 [.int .u8],(.own 16000019)),(.int .i64,.nil),(.int .i64,.nil),(.sl 5 [.int .u8],(.own 16000020)),(.sl 5 [.int .u8],(.own 16000021)),(.int .i64,.nil),(.sl 5 [.int .u8],(.own 16000022)),(.int .i64,.nil),(.sl 5 [.int .u8],(.own 16000023)),(.int .i64,.nil),(.int .i64,.nil),(.sl 3 [.int .i64],(.own 16000024)),(.int .i64,.nil),(.sl 5 [.int .u8],(.own 16000025)),(.int .i64,.nil),(.int .i64,.nil),(.sl 3 [.int .i64],(.own 16000026)),(.bool,.nil),(.int .i64,.nil),(.sl 5 [.int .u8],(.own 16000027)),(.bool,.nil),(.int .i64,.nil),(.int .i64,.nil),(.int .i64,.nil),(.bool,.nil),(.int .i64,.nil),(.int .i64,.nil),(.int .i64,.nil),(.int .i64,.nil)])],[16000000,16000001,16000002,16000003,16000004,16000005,16000006,16000007,16000008,16000009,16000010,16000011,16000012,16000013,16000014,16000015,16000016,16000017,16000018,16000019,16000020,16000021,16000022,16000023,16000024,16000025,16000026,16000027]⟩
def Aei:List (Ex×Sk):=[((.exit 0),⟨[(0,.box 0 0),(2,.box 2 0),(3,.box 3 0),(5,.v false [(.int .i64,.nil)])],[(0,[(.sl 5 [.int .u8],(.pin 0)),(.int .i64,.nil),(.int .i64,.nil)]),(2,[(.int .i64,.nil),(.sl 5 [.int .u8],(.own 16000000)),(.int .i64,.nil),(.int .i64,.nil),(.int .i64,.nil),(.sl 5 [.int .u8],(.own 16000001)),(.int .i64,.nil),(.int .i64,.nil),(.sl 5 [.int .u8],(.own 16000002)),(.sl 5 [.int .u8],(.own 16000003)),(.int .i64,.nil),(.sl 5 [.int .u8],(.own 16000004)),(.sl 5 [.int .u8],(.own 16000005)),(.int .i64,.nil),(.int .i64,.nil),(.sl 5 [.int .u8],(.own 16000006)),(.sl 5 [.int .u8],(.own 16000007)),(.int .i64,.nil),(.sl 5 [.int .u8],(.own 16000008)),(.int .i64,.nil),(.sl 5 [.int .u8],(.own 16000009)),(.int .i64,.nil),(.int .i64,.nil),(.sl 3 [.int .i64],(.own 16000010)),(.int .i64,.nil),(.sl 5 [.int .u8],(.own 16000011)),(.int .i64,.nil),(.int .i64,.nil),(.sl 3 [.int .i64],(.own 16000012)),(.bool,.nil),(.int .i64,.nil),(.sl 5 [.int .u8],(.own 16000013)),(.bool,.nil),(.int .i64,.nil),(.int .i64,.nil),(.int .i64,.nil),(.bool,.nil),(.int .i64,.nil),(.int .i64,.nil),(.int .i64,.nil),(.int .i64,.nil)]),(3,[(.int .i64,.nil),(.sl 5 [.int .u8],(.own 16000014)),(.int .i64,.nil),(.int .i64,.nil),(.int .i64,.nil),(.sl 5 [.int .u8],(.own 16000015)),(.int .i64,.nil),(.int .i64,.nil),(.sl 5 [.int .u8],(.own 16000016)),(.sl 5 [.int .u8],(.own 16000017)),(.int .i64,.nil),(.sl 5 [.int .u8],(.own 16000018)),(.sl 5 [.int .u8],(.own 16000019)),(.int .i64,.nil),(.int .i64,.nil),(.sl 5 [.int .u8],(.own 16000020)),(.sl 5 [.int .u8],(.own 16000021)),(.int .i64,.nil),(.sl 5 [.int .u8],(.own 16000022)),(.int .i64,.nil),(.sl 5 [.int .u8],(.own 16000023)),(.int .i64,.nil),(.int .i64,.nil),(.sl 3 [.int .i64],(.own 16000024)),(.int .i64,.nil),(.sl 5 [.int .u8],(.own 16000025)),(.int .i64,.nil),(.int .i64,.nil),(.sl 3 [.int .i64],(.own 16000026)),(.bool,.nil),(.int .i64,.nil),(.sl 5 [.int .u8],(.own 16000027)),(.bool,.nil),(.int .i64,.nil),(.int .i64,.nil),(.int .i64,.nil),(.bool,.nil),(.int .i64,.nil),(.int .i64,.nil),(.int .i64,.nil),(.int .i64,.nil)])],[16000000,16000001,16000002,16000003,16000004,16000005,16000006,16000007,16000008,16000009,16000010,16000011,16000012,16000013,16000014,16000015,16000016,16000017,16000018,16000019,16000020,16000021,16000022,16000023,16000024,16000025,16000026,16000027]⟩)]
def Adc:Hv:=fun i st=>cond (Nat.beq i 15) (lam Aeh 16000000 Aei Em st) <| .fail
theorem Ary (cx:Cx) (hp:cx.pin.length≤1):Fe Tryz.prog cx Tryz.f151.ntmps Adc (Bk Tryz.f151 0):=Gt Aof hp (Ec (by kernel_rfl:Bx (Bk Tryz.f151 0)=[]) trivial) (by kernel_rfl) (fun d=>(by kernel_rfl:bod (Ez Rr) 1 Tryz.f151.ntmps Adc (Bk Tryz.f151 0) Aeh 16000000 Aei d=Em d))
theorem Ayr:Fn Tryz.prog 151 (.box [3] true true) Aoe:=Wp Aof Tryz.func151 (by kernel_rfl) (by kernel_rfl) (fun cx b hp hb=>Ec (by kernel_rfl:Bx (Tryz.f151.body.getD .skip)=[Bk Tryz.f151 0]) ⟨Ary cx hp,trivial⟩ b hb) (fun d=>(by kernel_rfl:Ib (Ez Rr) 1 Adc Tryz.f151 (.box [3] true true) (mkA [g_2] d)=(Rd d.1).run fun r=>some ([rv g_5 r.1],[rv g_2 r.2])))
def Arz:Av:=As [g_2] (fun d=>(Agb d.1).val) fun r=>([rv g_4 r.1],[rv g_2 r.2])
theorem A1r:Fn Tryz.prog 344 (.box [3] true true) Arz:=mkF [(167,(.box [3] true true),Ji),(175,(.box [3] true true),Cf),(269,(.box [3] true true),Ot),(197,.plain,Ap6)] ⟨Kb,B9,Rk,Avo,trivial⟩ Tryz.func344 1
def Avw:Av:=As [g_2] (fun d=>(Akh d.1).val) fun r=>([rv g_3 r.1],[rv g_2 r.2])
theorem A4o:Fn Tryz.prog 345 (.box [3] true true) Avw:=mkF [(127,(.box [3] true true),C9)] ⟨C5,trivial⟩ Tryz.func345 1
def Avx:Av:=As [g_2] (fun d=>(Akj d.1).val) fun r=>([rv g_4 r.1],[rv g_2 r.2])
theorem A4p:Fn Tryz.prog 268 (.box [3] true true) Avx:=mkF [(344,(.box [3] true true),Arz),(175,(.box [3] true true),Cf),(345,(.box [3] true true),Avw),(127,(.box [3] true true),C9)] ⟨A1r,B9,A4o,C5,trivial⟩ Tryz.func268 1
def Ar0:Av:=As [g_2] (fun d=>(Agd d.1).val) fun r=>([rv g_7 r.1],[rv g_2 r.2])
theorem A1s:Fn Tryz.prog 300 (.box [3] true true) Ar0:=mkF [(175,(.box [3] true true),Cf),(128,(.box [3] true true),Ed),(127,(.box [3] true true),C9)] ⟨B9,Ee,C5,trivial⟩ Tryz.func300 1
def Alk:Av:=As [g_2] (fun d=>(Akl d.1).val) fun r=>([rv g_7 r.1],[rv g_2 r.2])
theorem Ar1:Fn Tryz.prog 176 (.box [3] true true) Alk:=mkF [(300,(.box [3] true true),Ar0),(175,(.box [3] true true),Cf),(127,(.box [3] true true),C9),(128,(.box [3] true true),Ed)] ⟨A1s,B9,C5,Ee,trivial⟩ Tryz.func176 1
def Ays:Av:=As [g_2] (fun d=>(Apt d.1).val) fun r=>([rv g_9 r.1],[rv g_2 r.2])
theorem A6y:Fn Tryz.prog 387 (.box [3] true true) Ays:=mkF [(127,(.box [3] true true),C9),(128,(.box [3] true true),Ed),(299,.plain,Nn),(167,(.box [3] true true),Ji),(342,(.box [3] true true),Wt)] ⟨C5,Ee,Oz,Kb,Ac9,trivial⟩ Tryz.func387 1
def Avy:Av:=As [g_2] (fun d=>(Akm d.1).val) fun r=>([rv g_8 r.1],[rv g_2 r.2])
theorem A4q:Fn Tryz.prog 388 (.box [3] true true) Avy:=mkF [(342,(.box [3] true true),Wt),(175,(.box [3] true true),Cf),(127,(.box [3] true true),C9)] ⟨Ac9,B9,C5,trivial⟩ Tryz.func388 1
def Avz:Av:=As [g_2] (fun d=>(Ako d.1).val) fun r=>([rv g_9 r.1],[rv g_2 r.2])
theorem A4r:Fn Tryz.prog 357 (.box [3] true true) Avz:=mkF [(387,(.box [3] true true),Ays),(175,(.box [3] true true),Cf),(127,(.box [3] true true),C9),(128,(.box [3] true true),Ed),(388,(.box [3] true true),Avy)] ⟨A6y,B9,C5,Ee,A4q,trivial⟩ Tryz.func357 1
def Ar2:Av:=As [g_2] (fun d=>(Agf d.1).val) fun r=>([rv Fa r.1],[rv g_2 r.2])
theorem A1t:Fn Tryz.prog 294 (.box [3] true true) Ar2:=mkF [(175,(.box [3] true true),Cf),(264,(.box [3] true true),Ada),(127,(.box [3] true true),C9),(128,(.box [3] true true),Ed),(357,(.box [3] true true),Avz)] ⟨B9,Ali,C5,Ee,A4r,trivial⟩ Tryz.func294 1
def Ar3:Av:=As [g_2] (fun d=>(Agh d.1).val) fun r=>([rv Ahp r.1],[rv g_2 r.2])
theorem A1u:Fn Tryz.prog 295 (.box [3] true true) Ar3:=mkF [(127,(.box [3] true true),C9),(289,(.box [3] true true),Adb),(175,(.box [3] true true),Cf)] ⟨C5,Alj,B9,trivial⟩ Tryz.func295 1
def Ar4:Av:=As [g_2] (fun d=>(Agi d.1).val) fun r=>([rv g_5 r.1],[rv g_2 r.2])
theorem A1v:Fn Tryz.prog 166 (.box [3] true true) Ar4:=mkF [(151,(.box [3] true true),Aoe),(175,(.box [3] true true),Cf),(127,(.box [3] true true),C9),(128,(.box [3] true true),Ed),(268,(.box [3] true true),Avx),(176,(.box [3] true true),Alk),(294,(.box [3] true true),Ar2),(295,(.box [3] true true),Ar3)] ⟨Ayr,B9,C5,Ee,A4p,Ar1,A1t,A1u,trivial⟩ Tryz.func166 1
def Ar5:Av:=As [g_2,g_5] (fun d=>(Agk d.1 d.2.1).val) fun r=>([rv g_3 r.1],[rv g_2 r.2])
theorem A1w:Fn Tryz.prog 172 (.box [3] true true) Ar5:=mkF [(127,(.box [3] true true),C9)] ⟨C5,trivial⟩ Tryz.func172 1
def Ar6:Av:=As [g_2] (fun d=>(Agm d.1).val) fun r=>([rv g_3 r.1,rv g_0 r.2.1],[rv g_2 r.2.2])
theorem A1x:Fn Tryz.prog 298 (.box [3] true true) Ar6:=mkF [(175,(.box [3] true true),Cf),(128,(.box [3] true true),Ed),(127,(.box [3] true true),C9)] ⟨B9,Ee,C5,trivial⟩ Tryz.func298 1
def Ar7:Av:=As [g_2,g_0] (fun d=>(Ago d.1 d.2.1).val) fun r=>([rv g_0 r.1],[rv g_2 r.2])
theorem A1y:Fn Tryz.prog 301 (.box [3] true true) Ar7:=mkF [(175,(.box [3] true true),Cf),(269,(.box [3] true true),Ot)] ⟨B9,Rk,trivial⟩ Tryz.func301 1
def Ahy:Av:=As [g_2,g_7] (fun d=>(Agp d.1 d.2.1).val) fun r=>([rv g_7 r.1],[rv g_2 r.2])
theorem Aog:Fn Tryz.prog 177 (.box [3] true true) Ahy:=mkF [(296,.plain,Ou),(175,(.box [3] true true),Cf),(127,(.box [3] true true),C9),(301,(.box [3] true true),Ar7)] ⟨Rl,B9,C5,A1y,trivial⟩ Tryz.func177 1
def All:Av:=As [g_2,Fa] (fun d=>(Xx d.1 d.2.1).val) fun r=>([rv g_7 r.1],[rv g_2 r.2])
theorem Axb:Fn Tryz.prog 174 (.box [3] true true) All:=mkF [(298,(.box [3] true true),Ar6),(167,(.box [3] true true),Ji),(299,.plain,Nn),(127,(.box [3] true true),C9),(266,.plain,Ahw),(177,(.box [3] true true),Ahy)] ⟨A1x,Kb,Oz,C5,Alg,Aog,trivial⟩ Tryz.func174 1
def Sf:Av:=As [g_0] (fun d=>(Kr d.1).val) fun r=>([rv g_5 r.1,rv g_3 r.2.1,rv g_7 r.2.2],[])
theorem Aj1:Fn Tryz.prog 48 .view Sf:=mkF [(124,.ret,Avn),(166,(.box [3] true true),Ar4),(172,(.box [3] true true),Ar5),(173,(.box [3] true true),Tf),(174,(.box [3] true true),All),(175,(.box [3] true true),Cf),(176,(.box [3] true true),Alk),(177,(.box [3] true true),Ahy)] ⟨A4h,A1v,A1w,Ad9,Axb,B9,Ar1,Aog,trivial⟩ Tryz.func48 0
def Bz:Av:=As [g_3,g_3,g_3] (fun d=>(Agq d.1 d.2.1 d.2.2.1).val) fun r=>([rv g_1 r],[])
theorem Bv:Fn Tryz.prog 95 .plain Bz:=mkF [] trivial Tryz.func95 0
def Aa7:Av:=As [g_0] (fun d=>(Akp d.1).val) fun r=>([rv g_1 r],[])
theorem Ahz:Fn Tryz.prog 162 .plain Aa7:=mkF [(95,.plain,Bz)] ⟨Bv,trivial⟩ Tryz.func162 0
def Ah0:Av:=As [g_4] (fun d=>(Agr d.1).val) fun r=>([rv g_1 r],[])
theorem Aoh:Fn Tryz.prog 96 .plain Ah0:=mkF [(95,.plain,Bz)] ⟨Bv,trivial⟩ Tryz.func96 0
def Jz:Av:=As [g_0,g_0] (fun d=>(Ajh d.1 d.2.1).val) fun r=>([rv g_1 r],[])
theorem Lw:Fn Tryz.prog 143 .plain Jz:=mkF [] trivial Tryz.func143 0
def Ti:Av:=As [g_7,g_7] (fun d=>(S5 d.1 d.2.1).val) fun r=>([rv g_1 r],[])
theorem Aej:Fn Tryz.prog 163 .plain Ti:=mkF [(143,.plain,Jz)] ⟨Lw,trivial⟩ Tryz.func163 0
def Alm:Av:=As [g_6,g_6] (fun d=>(Xz d.1 d.2.1).val) fun r=>([rv g_1 r],[])
theorem Axc:Fn Tryz.prog 352 .plain Alm:=De [] trivial ⟨[(1,.v false [(.sl 3 [.int .i64],.ro)]),(12,.v false [(.sl 3 [.int .i64],.ro)]),(13,.v false [(.int .i64,.nil)]),(14,.v false [(.int .i64,.nil)])],[],[]⟩ 5000000 [(.ret,⟨[(4,.v false [(.bool,.nil)])],[],[]⟩),((.exit 0),⟨[],[],[]⟩)] 4 Ad1 Tryz.func352 0
def Ah1:Av:=As [g_9,g_9] (fun d=>(Ags d.1 d.2.1).val) fun r=>([rv g_1 r],[])
theorem Aoi:Fn Tryz.prog 280 .plain Ah1:=mkF [(143,.plain,Jz),(352,.plain,Alm)] ⟨Lw,Axc,trivial⟩ Tryz.func280 0
def Aek:Av:=As [Fa] (fun d=>(Qd d.1).val) fun r=>([rv g_1 r],[])
theorem Ar8:Fn Tryz.prog 141 .plain Aek:=mkF [(280,.plain,Ah1)] ⟨Aoi,trivial⟩ Tryz.func141 0
def Ft:Av:=As [g_0] (fun d=>(Anx d.1).val) fun r=>([rv g_1 r],[])
theorem Fz:Fn Tryz.prog 140 .plain Ft:=mkF [] trivial Tryz.func140 0
def Aoj:Av:=As [Ahp] (fun d=>(Aci d.1).val) fun r=>([rv g_1 r],[])
theorem Ayt:Fn Tryz.prog 164 .plain Aoj:=mkF [(95,.plain,Bz)] ⟨Bv,trivial⟩ Tryz.func164 0
def Lx:Av:=As [g_3] (fun d=>(Agt d.1).val) fun r=>([rv g_1 r],[])
theorem Mf:Fn Tryz.prog 101 .plain Lx:=mkF [(95,.plain,Bz)] ⟨Bv,trivial⟩ Tryz.func101 0
def Ar9:Av:=As [g_3,g_3] (fun d=>(Agu d.1 d.2.1).val) fun r=>([rv g_1 r],[])
theorem A1z:Fn Tryz.prog 283 .plain Ar9:=mkF [] trivial Tryz.func283 0
def Gj:Av:=As [g_7] (fun d=>(Acj d.1).val) fun r=>([rv g_1 r],[])
theorem G7:Fn Tryz.prog 145 .plain Gj:=mkF [(95,.plain,Bz),(140,.plain,Ft),(101,.plain,Lx),(283,.plain,Ar9),(163,.plain,Ti)] ⟨Bv,Fz,Mf,A1z,Aej,trivial⟩ Tryz.func145 0
def Ly:Av:=As [g_3] (fun d=>(Agw d.1).val) fun r=>([rv g_1 r],[])
theorem Mg:Fn Tryz.prog 274 .plain Ly:=mkF [] trivial Tryz.func274 0
def O5:Av:=As [g_6,g_3] (fun d=>(X1 d.1 d.2.1).val) fun r=>([rv g_1 r],[])
theorem Tj:Fn Tryz.prog 384 .plain O5:=De [(95,.plain,Bz)] ⟨Bv,trivial⟩ ⟨[(0,.v false [(.sl 3 [.int .i64],.ro)]),(1,.v false [(.int .i64,.nil)]),(7,.v false [(.sl 3 [.int .i64],.ro)]),(8,.v false [(.int .i64,.nil)]),(9,.v false [(.int .i64,.nil)])],[],[]⟩ 3000000 [(.ret,⟨[(4,.v false [(.bool,.nil)])],[],[]⟩),((.exit 0),⟨[(0,.v false [(.sl 3 [.int .i64],.ro)]),(1,.v false [(.int .i64,.nil)])],[],[]⟩)] 2 Il Tryz.func384 0
def Ah2:Av:=As [g_8,g_3] (fun d=>(Agx d.1 d.2.1).val) fun r=>([rv g_1 r],[])
theorem Aok:Fn Tryz.prog 385 .plain Ah2:=mkF [] trivial Tryz.func385 0
def Aln:Av:=As [g_8] (fun d=>(Akq d.1).val) fun r=>([rv g_1 r],[])
theorem Asa:Fn Tryz.prog 353 .plain Aln:=De [(95,.plain,Bz),(384,.plain,O5),(385,.plain,Ah2)] ⟨Bv,Tj,Aok,trivial⟩ ⟨[(1,.box 1 0),(3,.v false [(.int .i64,.nil)])],[(1,[(.int .i64,.nil),(.sl 3 [.int .i64],.ro)])],[]⟩ 5000000 [(.ret,⟨[(2,.v false [(.bool,.nil)])],[],[]⟩),((.exit 0),⟨[(1,.box 1 0)],[(1,[(.int .i64,.nil),(.sl 3 [.int .i64],.ro)])],[]⟩)] 4 J7 Tryz.func353 0
def Zw:Av:=As [g_9] (fun d=>(Apv d.1).val) fun r=>([rv g_1 r],[])
theorem Aa8:Fn Tryz.prog 281 .plain Zw:=mkF [(95,.plain,Bz),(353,.plain,Aln)] ⟨Bv,Asa,trivial⟩ Tryz.func281 0
def Av0:Av:=As [Fa] (fun d=>(Akr d.1).val) fun r=>([rv g_1 r],[])
theorem A4s:Fn Tryz.prog 282 .plain Av0:=mkF [(280,.plain,Ah1),(281,.plain,Zw),(95,.plain,Bz)] ⟨Aoi,Aa8,Bv,trivial⟩ Tryz.func282 0
def Lz:Av:=As [Fa] (fun d=>(Agy d.1).val) fun r=>([rv g_1 r],[])
theorem Mh:Fn Tryz.prog 142 .plain Lz:=mkF [(274,.plain,Ly),(140,.plain,Ft),(281,.plain,Zw),(282,.plain,Av0)] ⟨Mg,Fz,Aa8,A4s,trivial⟩ Tryz.func142 0
def Alo:Av:=As [g_5] (fun d=>(X3 d.1).val) fun r=>([rv g_1 r],[])
theorem Axd:Fn Tryz.prog 165 .plain Alo:=mkF [(140,.plain,Ft),(145,.plain,Gj),(143,.plain,Jz),(142,.plain,Lz)] ⟨Fz,G7,Lw,Mh,trivial⟩ Tryz.func165 0
def Zx:Av:=As [g_5] (fun d=>(X5 d.1).val) fun r=>([rv g_1 r],[])
theorem Ajo:Fn Tryz.prog 40 .plain Zx:=mkF [(95,.plain,Bz),(162,.plain,Aa7),(96,.plain,Ah0),(163,.plain,Ti),(141,.plain,Aek),(140,.plain,Ft),(164,.plain,Aoj),(165,.plain,Alo),(142,.plain,Lz)] ⟨Bv,Ahz,Aoh,Aej,Ar8,Fz,Ayt,Axd,Mh,trivial⟩ Tryz.func40 0
def Cw:Av:=As [g_0] (fun d=>(Akt d.1).val) fun r=>([rv g_0 r],[])
theorem Co:Fn Tryz.prog 134 .plain Cw:=mkF [] trivial Tryz.func134 0
def Tk:Av:=As [g_7] (fun d=>(S6 d.1).val) fun r=>([rv g_7 r],[])
theorem Ael:Fn Tryz.prog 157 .plain Tk:=mkF [(134,.plain,Cw)] ⟨Co,trivial⟩ Tryz.func157 0
def Ade:Av:=As [g_8] (fun d=>(Ack d.1).val) fun r=>([rv g_8 r],[])
theorem Alp:Fn Tryz.prog 381 .plain Ade:=mkF [] trivial Tryz.func381 0
def Wu:Av:=As [g_9] (fun d=>(Agz d.1).val) fun r=>([rv g_9 r],[])
theorem Adf:Fn Tryz.prog 346 .plain Wu:=mkF [(134,.plain,Cw),(381,.plain,Ade)] ⟨Co,Alp,trivial⟩ Tryz.func346 0
def O6:Av:=As [Fa] (fun d=>(X6 d.1).val) fun r=>([rv Fa r],[])
theorem Tl:Fn Tryz.prog 270 .plain O6:=mkF [(134,.plain,Cw),(346,.plain,Wu)] ⟨Co,Adf,trivial⟩ Tryz.func270 0
def L0:Av:=As [g_5] (fun d=>(Qf d.1).val) fun r=>([rv g_5 r],[])
theorem O7:Fn Tryz.prog 152 .plain L0:=mkF [(134,.plain,Cw),(157,.plain,Tk),(270,.plain,O6)] ⟨Co,Ael,Tl,trivial⟩ Tryz.func152 0
def Av1:Av:=As [] (fun d=>(Avl).val) fun r=>([rv g_6 r],[])
theorem A4t:Fn Tryz.prog 427 .plain Av1:=mkF [] trivial Tryz.func427 0
def Aol:Av:=As [] (fun d=>(Any).val) fun r=>([rv Aya r],[])
theorem Ayu:Fn Tryz.prog 417 .plain Aol:=mkF [(427,.plain,Av1)] ⟨A4t,trivial⟩ Tryz.func417 0
def Ah3:Av:=As [Aya] (fun d=>(Ag0 d.1).val) fun r=>([rv g_1 r],[])
theorem Aom:Fn Tryz.prog 423 .plain Ah3:=mkF [(384,.plain,O5),(95,.plain,Bz)] ⟨Tj,Bv,trivial⟩ Tryz.func423 0
def Fu:Av:=As [Bdx] (fun d=>(Ag1 d.1).val) fun r=>([rv g_0 r],[])
theorem Fv:Fn Tryz.prog 275 .plain Fu:=De [] trivial ⟨[(3,.v false [(.sl 5 [.int .u8],(.own 4000000))]),(7,.v false [(.sl 23 [.sl 5 [.int .u8]],.ro)]),(8,.v false [(.int .i64,.nil)]),(9,.v false [(.int .i64,.nil)])],[],[4000000]⟩ 4000000 [((.exit 0),⟨[(3,.v false [(.sl 5 [.int .u8],(.own 4000000))])],[],[4000000]⟩)] 3 Im Tryz.func275 0
def A3b:Av:=As [g_0,g_3,g_3] (fun d=>(At1 d.1 d.2.1 d.2.2.1).val) fun r=>([rv g_0 r.1,rv g_1 r.2],[])
theorem A9g:Fn Tryz.prog 374 .plain A3b:=mkF [] trivial Tryz.func374 0
def Ayv:Av:=As [g_0,g_3,g_3] (fun d=>(Apw d.1 d.2.1 d.2.2.1).val) fun r=>([rv g_3 r.1,rv g_3 r.2.1,rv g_1 r.2.2],[])
theorem A6z:Fn Tryz.prog 327 .plain Ayv:=De [(374,.plain,A3b)] ⟨A9g,trivial⟩ ⟨[(1,.v false [(.int .i64,.nil)]),(2,.v false [(.int .i64,.nil)]),(11,.v false [(.int .i64,.nil)]),(29,.v false [(.sl 5 [.int .u8],(.own 9000000))]),(30,.v false [(.int .i64,.nil)]),(31,.v false [(.int .i64,.nil)])],[],[9000000]⟩ 9000000 [((.exit 0),⟨[(1,.v false [(.int .i64,.nil)]),(2,.v false [(.int .i64,.nil)]),(11,.v false [(.int .i64,.nil)])],[],[]⟩)] 8 Lr Tryz.func327 0
def Auh:Av:=As [g_3,g_3] (fun d=>(At3 d.1 d.2.1).val) fun r=>([rv g_3 r],[])
theorem Ayw:Fn Tryz.prog 431 .plain Auh:=mkF [] trivial Tryz.func431 0
def Alq:Av:=As [g_0] (fun d=>(Oh d.1).val) fun r=>([rv g_6 r],[])
def K6:Fns:=[(327,.plain,Ayv),(431,.plain,Auh)]
theorem Zy:CfgOk Tryz.prog (Ez K6):=H7 Ri Me (show Mw Tryz.prog K6 from⟨A6z,Ayw,trivial⟩)
def Aem:Sk:=⟨[(3,.v false [(.sl 3 [.int .i64],(.own 10000000))]),(5,.v false [(.int .i64,.nil)])],[],[10000000]⟩
def Aen:List (Ex×Sk):=[((.exit 2),⟨[(3,.v false [(.sl 3 [.int .i64],(.own 10000000))])],[],[10000000]⟩)]
def Aeo:Sk:=⟨[(0,.v false [(.sl 5 [.int .u8],.ro)]),(3,.v false [(.sl 3 [.int .i64],(.own 6000000))]),(4,.v false [(.int .i64,.nil)])],[],[6000000]⟩
def Aep:List (Ex×Sk):=[((.exit 0),⟨[(3,.v false [(.sl 3 [.int .i64],(.own 6000000))])],[],[6000000]⟩)]
def K7:Hv:=fun i st=>cond (Nat.beq i 5) (lam Aeo 6000000 Aep Gm st) <| cond (Nat.beq i 9) (lam Aem 10000000 Aen Gn st) <| .fail
theorem Asb (cx:Cx) (hp:cx.pin.length≤0):Fe Tryz.prog cx Tryz.f430.ntmps K7 (Bk Tryz.f430 0):=Gt Zy hp (Ec (by kernel_rfl:Bx (Bk Tryz.f430 0)=[]) trivial) (by kernel_rfl) (fun d=>(by kernel_rfl:bod (Ez K6) 0 Tryz.f430.ntmps K7 (Bk Tryz.f430 0) Aeo 6000000 Aep d=Gm d))
theorem Asc (cx:Cx) (hp:cx.pin.length≤0):Fe Tryz.prog cx Tryz.f430.ntmps K7 (Bk Tryz.f430 1):=Gt Zy hp (Ec (by kernel_rfl:Bx (Bk Tryz.f430 1)=[]) trivial) (by kernel_rfl) (fun d=>(by kernel_rfl:bod (Ez K6) 0 Tryz.f430.ntmps K7 (Bk Tryz.f430 1) Aem 10000000 Aen d=Gn d))
theorem Axe:Fn Tryz.prog 430 .plain Alq:=Wp Zy Tryz.func430 (by kernel_rfl) (by kernel_rfl) (fun cx b hp hb=>Ec (by kernel_rfl:Bx (Tryz.f430.body.getD .skip)=[Bk Tryz.f430 0,Bk Tryz.f430 1]) ⟨Asb cx hp,Asc cx hp,trivial⟩ b hb) (fun d=>(by kernel_rfl:Ib (Ez K6) 0 K7 Tryz.f430 .plain (mkA [g_0] d)=(Oh d.1).run fun r=>some ([rv g_6 r],[])))
theorem A60 (n:Int) (w:World) (h0:0≤n) (h1:n≤63):
  Calls Tryz.prog 432 #[.int .i64 n] w (Ret w (.int .i64 (Mi[n.toNat]?.getD 0))):=by
 have hx: ∃x,Mi[n.toNat]? =some x:=⟨_,List.getElem?_eq_getElem (by simp[Mi];omega)⟩
 obtain⟨x,hx⟩:=hx
 have hcell:(Alr 358 w Asd).cell? ⟨w.heap.size,n.toNat,none⟩=some (.int .i64 x):=by
  rw[A10];unfold Asd;rw[List.getElem?_toArray,List.getElem?_map,hx];rfl
 rw[hx]
 go_enter Tryz.func432,Tryz.ntmps432
 go_wp2_with (first|(refine Axf rfl 358 _ rfl Asd (by kernel_rfl) ?_)|(refine Axg rfl 358 rfl _ _ Ase (by kernel_rfl) (by kernel_rfl) (by kernel_rfl) ?_)|(refine Axh rfl 358 _ _ rfl Asd rfl rfl (by kernel_rfl) (by kernel_rfl) (by kernel_rfl) ?_))
 go_ret
 refine Ret.mk rfl ?_
 rw[A61]
 exact(Ce.refl _).alloc _
theorem A62 (n:Int) (w:World) (h0: ¬(0≤n∧n≤63)):
  Calls Tryz.prog 432 #[.int .i64 n] w (Ret w (.int .i64 0)):=by
 by_cases h:n<0
 ·go_enter Tryz.func432,Tryz.ntmps432
  go_wp2_with fail
  go_ret
  exact Ret.mk rfl (Ce.refl _)
 ·have h2:63<n:=by omega
  go_enter Tryz.func432,Tryz.ntmps432
  go_wp2_with fail
  go_ret
  exact Ret.mk rfl (Ce.refl _)
def Axi:List (Bool×List Sh):=[(false,[.int .i64])]
def Axj (r:YI):List RV×List RV:=([rv (false,[.int .i64]) r],[])
def Ajp:Av:=As Axi (fun d=>(Aji d.1).val) Axj
theorem Aui:Fn Tryz.prog 432 .plain Ajp:=by
 refine⟨?_,Tryz.f432,Tryz.func432,by kernel_rfl,by kernel_rfl⟩
 intro rs res vals w G hv hG hr
 obtain⟨d,x,rfl,h1,h2⟩:=Ayx hv
 obtain⟨⟨n,_⟩,_⟩:=d
 cases h1
 subst h2
 match vals,hr with
 |[v],hr=>
  have e:v= .int .i64 n:=hr.1.1.1
  subst e
  refine(?_:Calls Tryz.prog 432 #[.int .i64 n] w (Ret w (.int .i64 (Sb n)))).mono fun e w' h=>A63 (A64 n) h
  unfold Sb
  by_cases h:0≤n∧n≤63
  ·rw[if_pos h];exact A60 n w h.1 h.2
  ·rw[if_neg h];exact A62 n w h

def Av2:Av:=As [g_3,g_3] (fun d=>(Avm d.1 d.2.1).val) fun r=>([rv g_3 r],[])
theorem A4u:Fn Tryz.prog 433 .plain Av2:=mkF [] trivial Tryz.func433 0
def Als:Av:=As [g_6,g_0] (fun d=>(Oi d.1 d.2.1).val) fun r=>([rv g_6 r],[])
def K8:Fns:=[(384,.plain,O5),(430,.plain,Alq),(431,.plain,Auh),(432,.plain,Ajp),(433,.plain,Av2)]
theorem Zz:CfgOk Tryz.prog (Ez K8):=H7 Ri Me (show Mw Tryz.prog K8 from⟨Tj,Axe,Ayw,Aui,A4u,trivial⟩)
def Aa9:Sk:=⟨[(0,.v false [(.sl 3 [.int .i64],.ro)]),(5,.v false [(.sl 3 [.int .i64],(.own 17000000))]),(133,.v false [(.sl 3 [.int .i64],(.own 17000001))]),(134,.v false [(.int .i64,.nil)]),(135,.v false [(.int .i64,.nil)])],[],[17000000,17000001]⟩
def Aba:List (Ex×Sk):=[((.exit 2),⟨[(5,.v false [(.sl 3 [.int .i64],(.own 17000000))])],[],[17000000]⟩)]
def Aeq:Sk:=⟨[(0,.v false [(.sl 3 [.int .i64],.ro)]),(5,.v false [(.sl 3 [.int .i64],(.own 8000000))]),(6,.v false [(.sl 3 [.int .i64],(.own 8000001))]),(7,.v false [(.int .i64,.nil)]),(8,.v false [(.int .i64,.nil)]),(9,.v false [(.int .i64,.nil)]),(10,.v false [(.int .i64,.nil)]),(11,.v false [(.int .i64,.nil)]),(12,.v false [(.int .i64,.nil)]),(13,.v false [(.int .i64,.nil)]),(14,.v false [(.int .i64,.nil)]),(15,.v false [(.int .i64,.nil)])],[],[8000000,8000001]⟩
def Aer:List (Ex×Sk):=[((.exit 0),⟨[(0,.v false [(.sl 3 [.int .i64],.ro)]),(5,.v false [(.sl 3 [.int .i64],(.own 8000000))]),(7,.v false [(.int .i64,.nil)]),(8,.v false [(.int .i64,.nil)]),(9,.v false [(.int .i64,.nil)]),(10,.v false [(.int .i64,.nil)]),(11,.v false [(.int .i64,.nil)]),(12,.v false [(.int .i64,.nil)]),(13,.v false [(.int .i64,.nil)]),(14,.v false [(.int .i64,.nil)])],[],[8000000]⟩)]
def K9:Hv:=fun i st=>cond (Nat.beq i 7) (lam Aeq 8000000 Aer Fh st) <| cond (Nat.beq i 16) (lam Aa9 17000000 Aba Ey st) <| .fail
theorem Asf (cx:Cx) (hp:cx.pin.length≤0):Fe Tryz.prog cx Tryz.f429.ntmps K9 (Bk Tryz.f429 0):=Gt Zz hp (Ec (by kernel_rfl:Bx (Bk Tryz.f429 0)=[]) trivial) (by kernel_rfl) (fun d=>(by kernel_rfl:bod (Ez K8) 0 Tryz.f429.ntmps K9 (Bk Tryz.f429 0) Aeq 8000000 Aer d=Fh d))
theorem Aqc (cx:Cx) (hp:cx.pin.length≤0):Fe Tryz.prog cx Tryz.f429.ntmps K9 (Bk Tryz.f429 1):=Gt Zz hp (Ec (by kernel_rfl:Bx (Bk Tryz.f429 1)=[]) trivial) (by kernel_rfl) (fun d=>(by kernel_rfl:bod (Ez K8) 0 Tryz.f429.ntmps K9 (Bk Tryz.f429 1) Aa9 17000000 Aba d=Ey d))
theorem Axk:Fn Tryz.prog 429 .plain Als:=Wp Zz Tryz.func429 (by kernel_rfl) (by kernel_rfl) (fun cx b hp hb=>Ec (by kernel_rfl:Bx (Tryz.f429.body.getD .skip)=[Bk Tryz.f429 0,Bk Tryz.f429 1]) ⟨Asf cx hp,Aqc cx hp,trivial⟩ b hb) (fun d=>(by kernel_rfl:Ib (Ez K8) 0 K9 Tryz.f429 .plain (mkA [g_6,g_0] d)=(Oi d.1 d.2.1).run fun r=>some ([rv g_6 r],[])))
def O8:Av:=As [g_6,g_0] (fun d=>(Oj d.1 d.2.1).val) fun r=>([rv g_6 r.1,rv g_0 r.2],[])
theorem Z0:Fn Tryz.prog 424 .view O8:=De [(429,.plain,Als)] ⟨Axk,trivial⟩ ⟨[(0,.v false [(.sl 3 [.int .i64],.rd)]),(1,.v false [(.sl 5 [.int .u8],.ro)])],[],[]⟩ 2000000 [((.exit 0),⟨[(0,.v false [(.sl 3 [.int .i64],.rd)]),(1,.v false [(.sl 5 [.int .u8],.ro)])],[],[]⟩)] 1 D5 Tryz.func424 0
def Aon:Av:=As [Aya,g_0] (fun d=>(Acl d.1 d.2.1).val) fun r=>([rv Aya r],[])
theorem Ayy:Fn Tryz.prog 416 .plain Aon:=mkF [(423,.plain,Ah3),(134,.plain,Cw),(275,.plain,Fu),(424,.view,O8)] ⟨Aom,Co,Fv,Z0,trivial⟩ Tryz.func416 0
def Qo:Av:=As [g_0,g_3,g_3] (fun d=>(Ax8 d.1 d.2.1 d.2.2.1).val) fun r=>([rv g_0 r],[])
theorem Si:Fn Tryz.prog 328 .plain Qo:=De [] trivial ⟨[(1,.v false [(.int .i64,.nil)]),(7,.v false [(.sl 5 [.int .u8],(.own 6000000))]),(8,.v false [(.int .i64,.nil)])],[],[6000000]⟩ 6000000 [((.exit 0),⟨[(7,.v false [(.sl 5 [.int .u8],(.own 6000000))])],[],[6000000]⟩)] 5 Arg Tryz.func328 0
def A3c:Av:=As [g_3] (fun d=>(At4 d.1).val) fun r=>([rv g_0 r],[])
theorem A9h:Fn Tryz.prog 425 .plain A3c:=De [(95,.plain,Bz),(328,.plain,Qo)] ⟨Bv,Si,trivial⟩ ⟨[(0,.v false [(.int .i64,.nil)]),(3,.v false [(.sl 5 [.int .u8],(.own 5000000))])],[],[5000000]⟩ 5000000 [((.exit 0),⟨[(0,.v false [(.int .i64,.nil)]),(3,.v false [(.sl 5 [.int .u8],(.own 5000000))])],[],[5000000]⟩)] 4 Kw Tryz.func425 0
def Ajq:Av:=As [g_6] (fun d=>(S7 d.1).val) fun r=>([rv g_0 r],[])
theorem Auj:Fn Tryz.prog 426 .plain Ajq:=De [(328,.plain,Qo)] ⟨Si,trivial⟩ ⟨[(3,.v false [(.sl 5 [.int .u8],(.own 4000000))]),(7,.v false [(.sl 3 [.int .i64],.ro)]),(8,.v false [(.int .i64,.nil)]),(9,.v false [(.int .i64,.nil)])],[],[4000000]⟩ 4000000 [((.exit 0),⟨[(3,.v false [(.sl 5 [.int .u8],(.own 4000000))])],[],[4000000]⟩)] 3 F3 Tryz.func426 0
def Aoo:Av:=As [Aya] (fun d=>(Acn d.1).val) fun r=>([rv g_0 r],[])
theorem Ayz:Fn Tryz.prog 415 .plain Aoo:=mkF [(423,.plain,Ah3),(425,.plain,A3c),(275,.plain,Fu),(424,.view,O8),(426,.plain,Ajq)] ⟨Aom,A9h,Fv,Z0,Auj,trivial⟩ Tryz.func415 0
def Auk:Av:=As [g_0] (fun d=>(At6 d.1).val) fun r=>([rv g_0 r],[])
theorem Ay0:Fn Tryz.prog 401 .plain Auk:=mkF [(417,.plain,Aol),(416,.plain,Aon),(415,.plain,Aoo)] ⟨Ayu,Ayy,Ayz,trivial⟩ Tryz.func401 0
def Alt:Av:=As [g_0] (fun d=>(X8 d.1).val) fun r=>([rv g_0 r],[])
theorem Axl:Fn Tryz.prog 400 .plain Alt:=De [(134,.plain,Cw),(401,.plain,Auk)] ⟨Co,Ay0,trivial⟩ ⟨[(3,.v false [(.sl 5 [.int .u8],(.own 7000000))])],[],[7000000]⟩ 7000000 [((.exit 0),⟨[(3,.v false [(.sl 5 [.int .u8],(.own 7000000))])],[],[7000000]⟩)] 6 En Tryz.func400 0
def Asg:Av:=As [g_0,Bdy] (fun d=>(Ag2 d.1 d.2.1).val) fun r=>([rv g_0 r],[])
theorem A11:Fn Tryz.prog 402 .plain Asg:=De [] trivial ⟨[(1,.v false [(.int .u8,.nil)]),(5,.v false [(.sl 5 [.int .u8],(.own 4000000))]),(9,.v false [(.sl 5 [.int .u8],.ro)]),(10,.v false [(.int .i64,.nil)]),(11,.v false [(.int .i64,.nil)])],[],[4000000]⟩ 4000000 [((.exit 0),⟨[(5,.v false [(.sl 5 [.int .u8],(.own 4000000))])],[],[4000000]⟩)] 3 Ip Tryz.func402 0
def Z1:Av:=As [g_0,g_0] (fun d=>(Apy d.1 d.2.1).val) fun r=>([rv g_0 r],[])
theorem Abb:Fn Tryz.prog 375 .plain Z1:=mkF [(400,.plain,Alt),(402,.plain,Asg),(275,.plain,Fu),(401,.plain,Auk)] ⟨Axl,A11,Fv,Ay0,trivial⟩ Tryz.func375 0
def Adg:Av:=As [g_0,g_0] (fun d=>(Rf d.1 d.2.1).val) fun r=>([rv g_0 r],[])
theorem Alu:Fn Tryz.prog 336 .plain Adg:=mkF [(375,.plain,Z1)] ⟨Abb,trivial⟩ Tryz.func336 0
def Ash:Av:=As [g_0,g_0,g_3] (fun d=>(Ag3 d.1 d.2.1 d.2.2.1).val) fun r=>([rv g_0 r.1,rv g_1 r.2],[])
theorem A12:Fn Tryz.prog 356 .plain Ash:=De [(95,.plain,Bz),(275,.plain,Fu),(375,.plain,Z1),(134,.plain,Cw)] ⟨Bv,Fv,Abb,Co,trivial⟩ ⟨[(0,.v false [(.sl 5 [.int .u8],.ro)]),(1,.v false [(.sl 5 [.int .u8],.ro)]),(2,.v false [(.int .i64,.nil)]),(8,.v false [(.sl 5 [.int .u8],(.own 7000000))]),(9,.v false [(.sl 5 [.int .u8],(.own 7000001))]),(10,.v false [(.int .i64,.nil)])],[],[7000000,7000001]⟩ 7000000 [((.exit 0),⟨[(2,.v false [(.int .i64,.nil)]),(8,.v false [(.sl 5 [.int .u8],(.own 7000000))])],[],[7000000]⟩)] 6 Iq Tryz.func356 0
def Wv:Av:=As [g_0,Bb9] (fun d=>(Ag5 d.1 d.2.1).val) fun r=>([rv g_0 r],[])
theorem Adh:Fn Tryz.prog 292 .plain Wv:=mkF [(356,.plain,Ash)] ⟨A12,trivial⟩ Tryz.func292 0
def Tm:Av:=As [g_0] (fun d=>(S9 d.1).val) fun r=>([rv g_0 r],[])
theorem Aes:Fn Tryz.prog 253 .plain Tm:=mkF [(162,.plain,Aa7),(336,.plain,Adg),(292,.plain,Wv)] ⟨Ahz,Alu,Adh,trivial⟩ Tryz.func253 0
def Tn:Av:=As [g_3,g_0,g_0,g_3,g_0] (fun d=>(Ta d.1 d.2.1 d.2.2.1 d.2.2.2.1 d.2.2.2.2.1).val) fun r=>([rv g_0 r],[])
theorem Aet:Fn Tryz.prog 254 .plain Tn:=mkF [(95,.plain,Bz),(140,.plain,Ft),(328,.plain,Qo),(275,.plain,Fu)] ⟨Bv,Fz,Si,Fv,trivial⟩ Tryz.func254 0
def Ana:Av:=As [g_0,g_0] (fun d=>(At7 d.1 d.2.1).val) fun r=>([rv g_0 r],[])
theorem Aqd:Fn Tryz.prog 330 .plain Ana:=mkF [(375,.plain,Z1),(134,.plain,Cw)] ⟨Abb,Co,trivial⟩ Tryz.func330 0
def Av3:Av:=As [g_0,g_3,g_0,g_0,g_3,g_0] (fun d=>(Aku d.1 d.2.1 d.2.2.1 d.2.2.2.1 d.2.2.2.2.1 d.2.2.2.2.2.1).val) fun r=>([rv g_0 r],[])
theorem A4v:Fn Tryz.prog 334 .plain Av3:=mkF [(253,.plain,Tm),(254,.plain,Tn),(330,.plain,Ana)] ⟨Aes,Aet,Aqd,trivial⟩ Tryz.func334 0
def Alv:Av:=As [g_0,g_3,g_7] (fun d=>(Za d.1 d.2.1 d.2.2.1).val) fun r=>([rv g_7 r.1,rv g_1 r.2],[])
theorem Axm:Fn Tryz.prog 302 .plain Alv:=mkF [(145,.plain,Gj),(334,.plain,Av3),(134,.plain,Cw)] ⟨G7,A4v,Co,trivial⟩ Tryz.func302 0
def Alw:Av:=As [g_3] (fun d=>(Zc d.1).val) fun r=>([rv Ahp r],[])
theorem Axn:Fn Tryz.prog 160 .plain Alw:=mkF [(95,.plain,Bz)] ⟨Bv,trivial⟩ Tryz.func160 0
def Aop:Av:=As [g_0,g_0,g_0] (fun d=>(Acp d.1 d.2.1 d.2.2.1).val) fun r=>([rv g_0 r],[])
theorem Ay1:Fn Tryz.prog 362 .plain Aop:=mkF [(162,.plain,Aa7),(140,.plain,Ft),(275,.plain,Fu),(336,.plain,Adg)] ⟨Ahz,Fz,Fv,Alu,trivial⟩ Tryz.func362 0
def Alx:Av:=As [g_0] (fun d=>(Ze d.1).val) fun r=>([rv g_0 r],[])
theorem Axo:Fn Tryz.prog 361 .plain Alx:=mkF [(292,.plain,Wv)] ⟨Adh,trivial⟩ Tryz.func361 0
def Av4:Av:=As [g_0,g_3] (fun d=>(Akw d.1 d.2.1).val) fun r=>([rv g_0 r],[])
theorem A4w:Fn Tryz.prog 363 .plain Av4:=De [(95,.plain,Bz),(134,.plain,Cw),(292,.plain,Wv)] ⟨Bv,Co,Adh,trivial⟩ ⟨[(1,.v false [(.int .i64,.nil)]),(5,.v false [(.sl 5 [.int .u8],(.own 6000000))]),(6,.v false [(.int .i64,.nil)])],[],[6000000]⟩ 6000000 [((.exit 0),⟨[(5,.v false [(.sl 5 [.int .u8],(.own 6000000))])],[],[6000000]⟩)] 5 J8 Tryz.func363 0
def Aly:Av:=As [g_0,g_0,g_0,g_3] (fun d=>(Zg d.1 d.2.1 d.2.2.1 d.2.2.2.1).val) fun r=>([rv g_0 r],[])
theorem Axp:Fn Tryz.prog 304 .plain Aly:=mkF [(362,.plain,Aop),(361,.plain,Alx),(363,.plain,Av4)] ⟨Ay1,Axo,A4w,trivial⟩ Tryz.func304 0
def Asi:Av:=As [] (fun d=>(Ag6).val) fun r=>([rv g_8 r],[])
theorem A13:Fn Tryz.prog 347 .plain Asi:=mkF [] trivial Tryz.func347 0
def Alz:Av:=As [g_3,g_0] (fun d=>(Aav d.1 d.2.1).val) fun r=>([rv g_9 r],[])
theorem Asj:Fn Tryz.prog 272 .plain Alz:=mkF [(95,.plain,Bz),(134,.plain,Cw),(347,.plain,Asi)] ⟨Bv,Co,A13,trivial⟩ Tryz.func272 0
def Aoq:Av:=As [g_3,g_0,g_0] (fun d=>(Acr d.1 d.2.1 d.2.2.1).val) fun r=>([rv Fa r],[])
theorem Ay2:Fn Tryz.prog 303 .plain Aoq:=mkF [(274,.plain,Ly),(140,.plain,Ft),(134,.plain,Cw),(272,.plain,Alz)] ⟨Mg,Fz,Co,Asj,trivial⟩ Tryz.func303 0
def Aqe:Av:=As [g_0,g_0] (fun d=>(Apz d.1 d.2.1).val) fun r=>([rv Ap5 r],[])
theorem Av5:Fn Tryz.prog 245 .plain Aqe:=mkF [(134,.plain,Cw)] ⟨Co,trivial⟩ Tryz.func245 0
def Aeu:Av:=As [g_5,g_3,g_7] (fun d=>(Qh d.1 d.2.1 d.2.2.1).val) fun r=>([rv g_5 r.1,rv At9 r.2.1,rv Aua r.2.2],[])
theorem Ask:Fn Tryz.prog 178 .plain Aeu:=mkF [(152,.plain,L0),(302,.plain,Alv),(160,.plain,Alw),(304,.plain,Aly),(303,.plain,Aoq),(134,.plain,Cw),(253,.plain,Tm),(254,.plain,Tn),(245,.plain,Aqe),(157,.plain,Tk)] ⟨O7,Axm,Axn,Axp,Ay2,Co,Aes,Aet,Av5,Ael,trivial⟩ Tryz.func178 0
def Aqf:Av:=As [g_0,g_0] (fun d=>(Ap0 d.1 d.2.1).val) fun r=>([rv g_3 r],[])
theorem Av6:Fn Tryz.prog 271 .plain Aqf:=De [] trivial ⟨[(0,.v false [(.sl 5 [.int .u8],.ro)]),(1,.v false [(.sl 5 [.int .u8],.ro)]),(5,.v false [(.int .i64,.nil)]),(13,.v false [(.int .i64,.nil)]),(14,.v false [(.int .i64,.nil)])],[],[]⟩ 6000000 [((.exit 0),⟨[(5,.v false [(.int .i64,.nil)])],[],[]⟩)] 5 Ok Tryz.func271 0
def Ww:Av:=As [g_3,g_0,g_3,g_3] (fun d=>(Ag8 d.1 d.2.1 d.2.2.1 d.2.2.2.1).val) fun r=>([rv g_0 r],[])
theorem Adi:Fn Tryz.prog 276 .plain Ww:=mkF [(274,.plain,Ly),(140,.plain,Ft),(95,.plain,Bz),(328,.plain,Qo),(275,.plain,Fu)] ⟨Mg,Fz,Bv,Si,Fv,trivial⟩ Tryz.func276 0
def Iw:Av:=As [g_3,g_7] (fun d=>(Zi d.1 d.2.1).val) fun r=>([rv g_0 r],[])
theorem J0:Fn Tryz.prog 133 .plain Iw:=mkF [(274,.plain,Ly),(101,.plain,Lx),(145,.plain,Gj),(276,.plain,Ww),(275,.plain,Fu)] ⟨Mg,Mf,G7,Adi,Fv,trivial⟩ Tryz.func133 0
def Asl:Av:=As [g_8,g_3] (fun d=>(Ag9 d.1 d.2.1).val) fun r=>([rv g_1 r],[])
theorem A14:Fn Tryz.prog 382 .plain Asl:=mkF [(353,.plain,Aln),(95,.plain,Bz),(385,.plain,Ah2)] ⟨Asa,Bv,Aok,trivial⟩ Tryz.func382 0
def Asm:Av:=As [g_8,g_3] (fun d=>(Ahb d.1 d.2.1).val) fun r=>([rv g_8 r.1,rv g_1 r.2],[])
theorem A15:Fn Tryz.prog 348 .plain Asm:=De [(381,.plain,Ade),(382,.plain,Asl)] ⟨Alp,A14,trivial⟩ ⟨[(1,.v false [(.int .i64,.nil)]),(2,.box 2 0),(4,.box 4 0),(6,.box 6 0),(7,.v false [(.int .i64,.nil)])],[(2,[(.int .i64,.nil),(.sl 3 [.int .i64],.ro)]),(4,[(.int .i64,.nil),(.sl 3 [.int .i64],(.own 6000000))]),(6,[(.int .i64,.nil),(.sl 3 [.int .i64],(.own 6000001))])],[6000000,6000001]⟩ 6000000 [((.exit 0),⟨[(1,.v false [(.int .i64,.nil)]),(2,.box 2 0),(4,.box 4 0),(6,.box 6 0)],[(2,[(.int .i64,.nil),(.sl 3 [.int .i64],.ro)]),(4,[(.int .i64,.nil),(.sl 3 [.int .i64],(.own 6000000))]),(6,[(.int .i64,.nil),(.sl 3 [.int .i64],(.own 6000001))])],[6000000,6000001]⟩)] 5 Ir Tryz.func348 0
def Aor:Av:=As [g_0,g_0] (fun d=>(Acu d.1 d.2.1).val) fun r=>([rv g_1 r],[])
theorem Ay3:Fn Tryz.prog 333 .plain Aor:=mkF [(271,.plain,Aqf)] ⟨Av6,trivial⟩ Tryz.func333 0
def Aos:Av:=As [g_0,g_0,g_3] (fun d=>(Acw d.1 d.2.1 d.2.2.1).val) fun r=>([rv g_0 r],[])
theorem Ay4:Fn Tryz.prog 420 .plain Aos:=mkF [(95,.plain,Bz),(275,.plain,Fu),(328,.plain,Qo),(375,.plain,Z1)] ⟨Bv,Fv,Si,Abb,trivial⟩ Tryz.func420 0
def Asn:Av:=As [g_0,g_0,g_3] (fun d=>(Ahd d.1 d.2.1 d.2.2.1).val) fun r=>([rv g_0 r],[])
theorem A16:Fn Tryz.prog 406 .plain Asn:=De [(95,.plain,Bz),(420,.plain,Aos),(134,.plain,Cw)] ⟨Bv,Ay4,Co,trivial⟩ ⟨[(0,.v false [(.sl 5 [.int .u8],.ro)]),(1,.v false [(.sl 5 [.int .u8],.ro)]),(2,.v false [(.int .i64,.nil)]),(7,.v false [(.sl 5 [.int .u8],(.own 6000000))]),(8,.v false [(.int .i64,.nil)])],[],[6000000]⟩ 6000000 [((.exit 0),⟨[(2,.v false [(.int .i64,.nil)]),(7,.v false [(.sl 5 [.int .u8],(.own 6000000))])],[],[6000000]⟩)] 5 Is Tryz.func406 0
def Aul:Av:=As [g_0,g_0,g_0] (fun d=>(At8 d.1 d.2.1 d.2.2.1).val) fun r=>([rv g_0 r],[])
theorem Ay5:Fn Tryz.prog 383 .plain Aul:=De [(406,.plain,Asn)] ⟨A16,trivial⟩ ⟨[(2,.v false [(.sl 5 [.int .u8],.ro)]),(7,.v false [(.sl 5 [.int .u8],(.own 6000000))]),(28,.v false [(.sl 5 [.int .u8],(.own 6000001))]),(29,.v false [(.int .i64,.nil)]),(30,.v false [(.int .i64,.nil)])],[],[6000000,6000001]⟩ 6000000 [((.exit 0),⟨[(7,.v false [(.sl 5 [.int .u8],(.own 6000000))])],[],[6000000]⟩)] 5 Nl Tryz.func383 0
def Aso:Av:=As [g_0,g_3,g_7] (fun d=>(Ahf d.1 d.2.1 d.2.2.1).val) fun r=>([rv g_0 r.1,rv g_1 r.2],[])
theorem A17:Fn Tryz.prog 349 .plain Aso:=mkF [(133,.plain,Iw),(330,.plain,Ana),(333,.plain,Aor),(276,.plain,Ww),(383,.plain,Aul)] ⟨J0,Aqd,Ay3,Adi,Ay5,trivial⟩ Tryz.func349 0
def Asp:Av:=As [g_9,g_3,g_7] (fun d=>(Ahh d.1 d.2.1 d.2.2.1).val) fun r=>([rv g_9 r.1,rv g_0 r.2.1,rv g_3 r.2.2],[])
theorem A18:Fn Tryz.prog 273 .plain Asp:=mkF [(346,.plain,Wu),(281,.plain,Zw),(133,.plain,Iw),(348,.plain,Asm),(349,.plain,Aso)] ⟨Adf,Aa8,J0,A15,A17,trivial⟩ Tryz.func273 0
def Al0:Av:=As [Fa,g_3,g_7] (fun d=>(Zj d.1 d.2.1 d.2.2.1).val) fun r=>([rv Fa r.1,rv g_0 r.2.1,rv g_3 r.2.2],[])
theorem Axq:Fn Tryz.prog 130 .plain Al0:=mkF [(270,.plain,O6),(142,.plain,Lz),(95,.plain,Bz),(101,.plain,Lx),(145,.plain,Gj),(271,.plain,Aqf),(272,.plain,Alz),(273,.plain,Asp)] ⟨Tl,Mh,Bv,Mf,G7,Av6,Asj,A18,trivial⟩ Tryz.func130 0
def Asq:Av:=As [Fa,g_3] (fun d=>(Ahi d.1 d.2.1).val) fun r=>([rv g_0 r.1,rv g_1 r.2],[])
theorem A19:Fn Tryz.prog 131 .plain Asq:=mkF [(142,.plain,Lz),(134,.plain,Cw)] ⟨Mh,Co,trivial⟩ Tryz.func131 0
def Ay6:Av:=As [g_0,g_0,g_0] (fun d=>(Ap1 d.1 d.2.1 d.2.2.1).val) fun r=>([rv Ap5 r],[])
theorem A65:Fn Tryz.prog 132 .plain Ay6:=mkF [(134,.plain,Cw)] ⟨Co,trivial⟩ Tryz.func132 0
def Ay7:Av:=As [g_0,g_3,g_0,g_3,g_3,g_3,g_0] (fun d=>(Ap3 d.1 d.2.1 d.2.2.1 d.2.2.2.1 d.2.2.2.2.1 d.2.2.2.2.2.1 d.2.2.2.2.2.2.1).val) fun r=>([rv g_7 r.1,rv g_1 r.2],[])
theorem A66:Fn Tryz.prog 351 .plain Ay7:=mkF [(134,.plain,Cw),(274,.plain,Ly),(101,.plain,Lx),(145,.plain,Gj),(276,.plain,Ww),(383,.plain,Aul),(133,.plain,Iw),(330,.plain,Ana)] ⟨Co,Mg,Mf,G7,Adi,Ay5,J0,Aqd,trivial⟩ Tryz.func351 0
def Asr:Av:=As [g_9,g_3,g_0,g_3,g_0] (fun d=>(Ahj d.1 d.2.1 d.2.2.1 d.2.2.2.1 d.2.2.2.2.1).val) fun r=>([rv g_9 r.1,rv g_7 r.2.1,rv g_3 r.2.2],[])
theorem A2a:Fn Tryz.prog 279 .plain Asr:=mkF [(346,.plain,Wu),(281,.plain,Zw),(351,.plain,Ay7)] ⟨Adf,Aa8,A66,trivial⟩ Tryz.func279 0
def Al1:Av:=As [Fa,g_3,g_0] (fun d=>(Zl d.1 d.2.1 d.2.2.1).val) fun r=>([rv Fa r.1,rv g_7 r.2.1,rv g_3 r.2.2],[])
theorem Axr:Fn Tryz.prog 138 .plain Al1:=mkF [(270,.plain,O6),(142,.plain,Lz),(279,.plain,Asr)] ⟨Tl,Mh,A2a,trivial⟩ Tryz.func138 0
def Ass:Av:=As [Fa,g_7] (fun d=>(Ahl d.1 d.2.1).val) fun r=>([rv Ap5 r],[])
theorem A2b:Fn Tryz.prog 139 .plain Ass:=mkF [(133,.plain,Iw),(245,.plain,Aqe)] ⟨J0,Av5,trivial⟩ Tryz.func139 0
def Aev:Av:=As [g_5,g_3,g_7] (fun d=>(Qm d.1 d.2.1 d.2.2.1).val) fun r=>([rv g_5 r.1,rv At9 r.2.1,rv Aua r.2.2],[])
theorem Ast:Fn Tryz.prog 179 .plain Aev:=mkF [(152,.plain,L0),(130,.plain,Al0),(131,.plain,Asq),(133,.plain,Iw),(132,.plain,Ay6),(134,.plain,Cw),(138,.plain,Al1),(139,.plain,Ass)] ⟨O7,Axq,A19,J0,A65,Co,Axr,A2b,trivial⟩ Tryz.func179 0
def Aew:Av:=As [g_5,g_3,g_7] (fun d=>(Lv d.1 d.2.1 d.2.2.1).val) fun r=>([rv g_5 r.1,rv At9 r.2.1,rv Aua r.2.2],[])
theorem Asu:Fn Tryz.prog 49 .plain Aew:=mkF [(40,.plain,Zx),(95,.plain,Bz),(145,.plain,Gj),(152,.plain,L0),(143,.plain,Jz),(178,.plain,Aeu),(101,.plain,Lx),(179,.plain,Aev)] ⟨Ajo,Bv,G7,O7,Lw,Ask,Mf,Ast,trivial⟩ Tryz.func49 0
def Z2:Av:=As [g_0,g_0] (fun d=>(Ap4 d.1 d.2.1).val) fun r=>([rv g_1 r],[])
theorem Abc:Fn Tryz.prog 34 .plain Z2:=mkF [] trivial Tryz.func34 0
def Ajr:Av:=As [g_7,g_7] (fun d=>(Tb d.1 d.2.1).val) fun r=>([rv g_1 r],[])
theorem Aum:Fn Tryz.prog 47 .plain Ajr:=mkF [(34,.plain,Z2)] ⟨Abc,trivial⟩ Tryz.func47 0
def Al2:Av:=As [g_6,g_6] (fun d=>(Zm d.1 d.2.1).val) fun r=>([rv g_1 r],[])
theorem Axs:Fn Tryz.prog 386 .plain Al2:=De [] trivial ⟨[(0,.v false [(.sl 3 [.int .i64],.ro)]),(1,.v false [(.sl 3 [.int .i64],.ro)]),(5,.v false [(.int .i64,.nil)])],[],[]⟩ 5000000 [(.ret,⟨[(4,.v false [(.bool,.nil)])],[],[]⟩),((.exit 0),⟨[],[],[]⟩)] 4 Gq Tryz.func386 0
def Aot:Av:=As [g_8,g_8] (fun d=>(Acy d.1 d.2.1).val) fun r=>([rv g_1 r],[])
theorem Ay8:Fn Tryz.prog 354 .plain Aot:=mkF [(386,.plain,Al2)] ⟨Axs,trivial⟩ Tryz.func354 0
def Asv:Av:=As [g_9,g_9] (fun d=>(Ahm d.1 d.2.1).val) fun r=>([rv g_1 r],[])
theorem A2c:Fn Tryz.prog 285 .plain Asv:=mkF [(34,.plain,Z2),(354,.plain,Aot)] ⟨Abc,Ay8,trivial⟩ Tryz.func285 0
def Al3:Av:=As [Fa,Fa] (fun d=>(Zo d.1 d.2.1).val) fun r=>([rv g_1 r],[])
theorem Axt:Fn Tryz.prog 147 .plain Al3:=mkF [(34,.plain,Z2),(285,.plain,Asv)] ⟨Abc,A2c,trivial⟩ Tryz.func147 0
def Aex:Av:=As [g_5,g_5] (fun d=>(Qn d.1 d.2.1).val) fun r=>([rv g_1 r],[])
theorem Asw:Fn Tryz.prog 42 .plain Aex:=mkF [(34,.plain,Z2),(47,.plain,Ajr),(147,.plain,Al3)] ⟨Abc,Aum,Axt,trivial⟩ Tryz.func42 0
def Al4:Av:=As [At9] (fun d=>(Zq d.1).val) fun r=>([rv g_1 r],[])
theorem Axu:Fn Tryz.prog 41 .plain Al4:=De [(145,.plain,Gj)] ⟨G7,trivial⟩ ⟨[(0,.v false [(.sl 76 Ax9,.ro)]),(3,.v false [(.int .i64,.nil)])],[],[]⟩ 3000000 [(.ret,⟨[(2,.v false [(.bool,.nil)])],[],[]⟩),((.exit 0),⟨[],[],[]⟩)] 2 Gs Tryz.func41 0
def Aou:Av:=As [g_0,g_3] (fun d=>(Ac0 d.1 d.2.1).val) fun r=>([rv g_1 r],[])
theorem Ay9:Fn Tryz.prog 284 .plain Aou:=mkF [] trivial Tryz.func284 0
def Asx:Av:=As [Ap5] (fun d=>(Ahn d.1).val) fun r=>([rv g_1 r],[])
theorem A2d:Fn Tryz.prog 146 .plain Asx:=mkF [(95,.plain,Bz),(284,.plain,Aou),(96,.plain,Ah0)] ⟨Bv,Ay9,Aoh,trivial⟩ Tryz.func146 0
def Aov:Av:=As [Aua] (fun d=>(Ac1 d.1).val) fun r=>([rv g_1 r],[])
theorem Aza:Fn Tryz.prog 31 .plain Aov:=De [(146,.plain,Asx)] ⟨A2d,trivial⟩ ⟨[(0,.v false [(.sl 113 h_9,.ro)]),(3,.v false [(.int .i64,.nil)])],[],[]⟩ 3000000 [(.ret,⟨[(2,.v false [(.bool,.nil)])],[],[]⟩),((.exit 0),⟨[],[],[]⟩)] 2 Hp Tryz.func31 0
def My:List (Bool×List Sh):=[g_0]
def Ajs (r:(Bool×Unit)):List RV×List RV:=([rv g_1 r],[])
def Axv:Av:=As My (fun d=>(Jx d.1).val) Ajs
theorem Aun:Fn Tryz.prog 7 .plain Axv:=mkF [(26,.plain,A28),(48,.view,Sf),(49,.plain,Aew),(40,.plain,Zx),(50,.plain,Ox),(42,.plain,Aex),(41,.plain,Al4),(31,.plain,Aov)] ⟨A9d,Aj1,Asu,Ajo,Td,Asw,Axu,Aza,trivial⟩ Tryz.func7 0
end
end Go.Proofs.YtmhhajdeafijmaaGreat

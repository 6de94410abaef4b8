/-
  That the functions of the seat answer what the terms of text W say; nothing is assumed.
-/
import Derived.Test.YtjlblagmjlmglaaGreatW
import Derived.Test.YtjlblagmjlmglaaGreatProg
import Derived.KernelRfl
namespace Go.Proofs.YtjlblagmjlmglaaGreat
open Go.RowKit
set_option linter.unusedVariables false
set_option maxRecDepth 100000
set_option maxHeartbeats 4000000
noncomputable section
abbrev h_0:List Sh:=[.int .i64,.int .i64,.bool,.int .u8]
abbrev h_1:List Sh:=[.bool,.int .i64,.int .i64,.int .i64]
abbrev h_2:List Sh:=[.sl 5 [.int .u8],.int .i64,.int .i64]
abbrev h_3:List Sh:=[.sl 3 [.int .i64],.sl 5 [.int .u8],.int .i64]
abbrev h_4:List Sh:=[.int .i64,.int .i64,.sl 5 [.int .u8],.int .i64]
abbrev h_5:List Sh:=[.int .i64,.sl 5 [.int .u8],.int .i64,.int .i64,.sl 3 [.int .i64]]
abbrev h_6:List Sh:=[.int .i64,.int .i64,.sl 170 h_4]
abbrev h_7:List Sh:=[.int .i64,.int .i64,.int .i64,.sl 5 [.int .u8],.sl 5 [.int .u8],.int .i64,.int .i64,.sl 5 [.int .u8],.sl 5 [.int .u8],.int .i64,.int .i64,.int .i64]
abbrev h_8:List Sh:=[.int .i64,.int .i64,.sl 5 [.int .u8],.sl 5 [.int .u8],.int .i64,.sl 5 [.int .u8],.sl 5 [.int .u8],.int .i64,.int .i64,.sl 5 [.int .u8],.sl 5 [.int .u8]]
abbrev h_9:List Sh:=[.int .i64,.int .i64,.int .i64,.int .i64,.sl 5 [.int .u8],.sl 5 [.int .u8],.int .i64,.sl 5 [.int .u8],.sl 5 [.int .u8],.int .i64,.int .i64,.sl 5 [.int .u8],.sl 5 [.int .u8]]
abbrev Bb6:List Sh:=[.int .i64,.sl 5 [.int .u8],.int .i64,.sl 5 [.int .u8],.int .i64,.int .i64,.sl 3 [.int .i64],.int .i64,.sl 5 [.int .u8],.int .i64,.int .i64,.sl 3 [.int .i64],.bool,.int .i64,.sl 5 [.int .u8]]
abbrev Bed:List Sh:=[.int .i64,.sl 5 [.int .u8],.sl 5 [.int .u8],.int .i64,.sl 5 [.int .u8],.int .i64,.sl 5 [.int .u8],.int .i64,.int .i64,.sl 3 [.int .i64],.int .i64,.sl 5 [.int .u8],.int .i64,.int .i64,.sl 3 [.int .i64],.bool,.int .i64,.sl 5 [.int .u8],.int .i64,.int .i64,.sl 170 h_4,.int .i64,.int .i64,.bool]
abbrev Bb7:List Sh:=[.int .i64,.sl 5 [.int .u8],.int .i64,.int .i64,.int .i64,.sl 5 [.int .u8],.int .i64,.int .i64,.sl 5 [.int .u8],.sl 5 [.int .u8],.int .i64,.sl 5 [.int .u8],.sl 5 [.int .u8],.int .i64,.int .i64,.sl 5 [.int .u8],.sl 5 [.int .u8],.int .i64,.sl 5 [.int .u8],.int .i64,.sl 5 [.int .u8],.int .i64,.int .i64,.sl 3 [.int .i64],.int .i64,.sl 5 [.int .u8],.int .i64,.int .i64,.sl 3 [.int .i64],.bool,.int .i64,.sl 5 [.int .u8],.bool,.int .i64,.int .i64,.int .i64,.bool,.int .i64,.int .i64,.int .i64,.int .i64]
abbrev g_0:Bool×List Sh:=(false,[.sl 5 [.int .u8]])
abbrev g_1:Bool×List Sh:=(false,[.bool])
abbrev g_2:Bool×List Sh:=(true,h_2)
abbrev g_3:Bool×List Sh:=(false,[.int .i64])
abbrev g_4:Bool×List Sh:=(true,[.int .i64,.int .i64])
abbrev g_5:Bool×List Sh:=(true,Bb7)
abbrev g_6:Bool×List Sh:=(false,[.sl 3 [.int .i64]])
abbrev g_7:Bool×List Sh:=(true,h_8)
abbrev g_8:Bool×List Sh:=(true,[.int .i64,.sl 3 [.int .i64]])
abbrev g_9:Bool×List Sh:=(true,h_5)
abbrev Fk:Bool×List Sh:=(true,Bb6)
abbrev Sy:Bool×List Sh:=(true,h_1)
abbrev Ax3:Bool×List Sh:=(false,[.sl 27 h_8])
abbrev Ax4:Bool×List Sh:=(false,[.sl 52 h_7])
abbrev Bd5:Bool×List Sh:=(false,[.str])
abbrev Ati:Bool×List Sh:=(true,h_7)
abbrev Bd6:Bool×List Sh:=(false,[.sl 22 [.sl 5 [.int .u8]]])
abbrev Ax5:Bool×List Sh:=(true,h_3)
abbrev Bd7:Bool×List Sh:=(false,[.int .u8])
def tys:List (Nat×Ty):=[(3,⟨false,[.int .i64],[],false,[]⟩),
 (4,⟨false,[.bool],[],false,[]⟩),
 (5,⟨false,[.int .u8],[],false,[]⟩),
 (9,⟨false,[.str],[],false,[]⟩),
 (22,⟨false,[.sl 5 [.int .u8]],[],false,[]⟩),
 (25,⟨true,[.int .i64,.int .i64],[(0,1),(1,1)],true,[]⟩),
 (27,⟨true,h_8,[(0,1),(1,1),(2,1),(3,1),(4,1),(5,1),(6,1),(7,1),(8,1),(9,1),(10,1)],false,[]⟩),
 (28,⟨false,[.sl 3 [.int .i64]],[],false,[]⟩),
 (30,⟨true,[.int .i64,.sl 3 [.int .i64]],[(0,1),(1,1)],false,[]⟩),
 (32,⟨true,h_5,[(0,1),(1,1),(2,1),(3,2)],false,[]⟩),
 (34,⟨true,Bb6,[(0,1),(1,1),(2,5),(7,5),(12,1),(13,1),(14,1)],false,[]⟩),
 (36,⟨true,h_1,[(0,1),(1,1),(2,1),(3,1)],true,[]⟩),
 (38,⟨true,Bb7,[(0,1),(1,1),(2,2),(4,1),(5,1),(6,11),(17,15),(32,4),(36,4),(40,1)],false,[]⟩),
 (41,⟨false,[.sl 27 h_8],[],false,[]⟩),
 (42,⟨false,[.sl 52 h_7],[],false,[]⟩),
 (52,⟨true,h_7,[(0,1),(1,1),(2,1),(3,1),(4,1),(5,1),(6,1),(7,1),(8,1),(9,2),(11,1)],false,[]⟩),
 (82,⟨false,[.sl 22 [.sl 5 [.int .u8]]],[],false,[]⟩),
 (138,⟨true,h_2,[(0,1),(1,1),(2,1)],false,[]⟩),
 (183,⟨false,[.int .u64],[],false,[]⟩),
 (214,⟨true,h_3,[(0,1),(1,1),(2,1)],false,[]⟩)]
theorem Ku:A35 Tryz.prog tys=true:=by kernel_rfl
theorem N6:Tryz.prog.follows .mixedOrders=true:=by kernel_rfl
abbrev Eg (C:Fns):Cfg:=⟨Aq2 tys,Q6 C,N7 C,3,4⟩
theorem mkF {f:FuncId} {fn:Func} {kd:Kind} {ps:List (Bool×List Sh)} {R:Type} {T:Nc ps→Tree R} {rvs:R→List RV×List RV} (C:Fns) (hc:Ls Tryz.prog C) (hf:Tryz.prog.funcs[f]? =some fn) (np:Nat) (hn:(fn.name== "runtime.NumGoroutine")=false:=by kernel_rfl) (hb:fn.body.isSome=true:=by kernel_rfl) (hl:Bq (fn.body.getD .skip)=[]:=by kernel_rfl)
  (he: ∀d,Hv (Eg C) np (fun _ _=>.fail) fn kd (mkA ps d)=(T d).run fun r=>some (rvs r):=by intro d;kernel_rfl):Fn Tryz.prog f kd (Au ps (fun d=>(T d).val) rvs):=
 Q7 (G7 N6 Ku hc) hf hn hb (fun cx b hp hbb=>by rw[hl]at hbb;cases hbb) he
abbrev lpq (r:Nat) (K:Sk) (z:Nat) (X:List (Ex×Sk)) (B:K.den→Option (K.den⊕Xa X)):Hn:=fun i st=>cond (Nat.beq i r) (lam K z X B st) .fail
theorem D7 {f:FuncId} {fn:Func} {kd:Kind} {ps:List (Bool×List Sh)} {R:Type} {T:Nc ps→Tree R} {rvs:R→List RV×List RV} (C:Fns) (hc:Ls Tryz.prog C) (K:Sk) (z:Nat) (X:List (Ex×Sk)) (r:Nat) (B:K.den→Option (K.den⊕Xa X)) (hf:Tryz.prog.funcs[f]? =some fn) (np:Nat) (hn:(fn.name== "runtime.NumGoroutine")=false:=by kernel_rfl) (hb:fn.body.isSome=true:=by kernel_rfl) (h1:Bq (fn.body.getD .skip)=[Be fn 0]:=by kernel_rfl) (h2:Bq (Be fn 0)=[]:=by kernel_rfl)
  (hq:lpq r K z X B (Kv (Be fn 0))=lam K z X B:=by kernel_rfl) (hl: ∀d,bod (Eg C) np fn.ntmps (lpq r K z X B) (Be fn 0) K z X d=B d:=by intro d;kernel_rfl)
  (he: ∀d,Hv (Eg C) np (lpq r K z X B) fn kd (mkA ps d)=(T d).run fun r=>some (rvs r):=by intro d;kernel_rfl):Fn Tryz.prog f kd (Au ps (fun d=>(T d).val) rvs):=
 Q7 (G7 N6 Ku hc) hf hn hb (fun cx b hp hbb=>Dw h1 ⟨F4 (G7 N6 Ku hc) hp (Dw h2 trivial) hq hl,trivial⟩ b hbb) he
def A2r:Av:=Au [g_0] (fun d=>(A2s d.1).val) fun r=>([rv g_1 r],[])
theorem A86:Fn Tryz.prog 7 .plain A2r:=mkF [] trivial Tryz.func7 0
def Au6:Av:=Au [g_0] (fun d=>(Ajk d.1).val) fun r=>([rv g_2 r],[])
theorem A36:Fn Tryz.prog 37 .ret Au6:=D7 [] trivial ⟨[(0,.v false [(.sl 5 [.int .u8],.ro)]),(3,.v false [(.int .i64,.nil)]),(4,.v false [(.int .i64,.nil)])],[],[]⟩ 4000000 [((.exit 0),⟨[(0,.v false [(.sl 5 [.int .u8],.ro)]),(3,.v false [(.int .i64,.nil)])],[],[]⟩)] 3 Q8 Tryz.func37 0
def Wc:Av:=Au [g_2] (fun d=>(Afe d.1).val) fun r=>([rv g_3 r.1],[rv g_2 r.2])
theorem Abo:Fn Tryz.prog 122 (.box [3] true true) Wc:=mkF [] trivial Tryz.func122 1
def Cv:Av:=Au [g_2,g_3] (fun d=>(Abp d.1 d.2.1).val) fun r=>([rv g_3 r.1],[rv g_2 r.2])
theorem Ct:Fn Tryz.prog 68 (.box [3] true true) Cv:=mkF [(122,(.box [3] true true),Wc)] ⟨Abo,trivial⟩ Tryz.func68 1
def Eh:Av:=Au [g_2,g_3] (fun d=>(Abq d.1 d.2.1).val) fun r=>([rv g_0 r.1],[rv g_2 r.2])
theorem Ei:Fn Tryz.prog 42 (.box [3] true true) Eh:=D7 [(122,(.box [3] true true),Wc)] ⟨Abo,trivial⟩ ⟨[(0,.box 0 0),(1,.v false [(.int .i64,.nil)]),(5,.v false [(.sl 5 [.int .u8],(.own 4000000))]),(6,.v false [(.int .i64,.nil)])],[(0,[(.sl 5 [.int .u8],(.pin 0)),(.int .i64,.nil),(.int .i64,.nil)])],[4000000]⟩ 4000000 [((.exit 0),⟨[(0,.box 0 0),(5,.v false [(.sl 5 [.int .u8],(.own 4000000))])],[(0,[(.sl 5 [.int .u8],(.pin 0)),(.int .i64,.nil),(.int .i64,.nil)])],[4000000]⟩)] 3 Jx Tryz.func42 1
def B4:Av:=Au [g_3,g_3,g_3] (fun d=>(Aoz d.1 d.2.1 d.2.2.1).val) fun r=>([rv g_1 r],[])
theorem Bu:Fn Tryz.prog 50 .plain B4:=mkF [] trivial Tryz.func50 0
def Ao0:Av:=Au [g_3] (fun d=>(Ao1 d.1).val) fun r=>([rv g_4 r],[])
theorem Au7:Fn Tryz.prog 113 .plain Ao0:=mkF [(50,.plain,B4)] ⟨Bu,trivial⟩ Tryz.func113 0
def R1:Av:=Au [g_0] (fun d=>(Ajl d.1).val) fun r=>([rv g_1 r],[])
theorem Wd:Fn Tryz.prog 76 .plain R1:=mkF [(50,.plain,B4)] ⟨Bu,trivial⟩ Tryz.func76 0
def Aff:Av:=Au [g_4] (fun d=>(Afg d.1).val) fun r=>([rv g_1 r],[])
theorem Anc:Fn Tryz.prog 77 .plain Aff:=mkF [(50,.plain,B4)] ⟨Bu,trivial⟩ Tryz.func77 0
def Sz:Av:=Au [g_3,g_0,g_4] (fun d=>(Jy d.1 d.2.1 d.2.2.1).val) fun r=>([rv g_5 r],[])
theorem Adp:Fn Tryz.prog 121 .plain Sz:=mkF [(50,.plain,B4),(76,.plain,R1),(77,.plain,Aff)] ⟨Bu,Wd,Anc,trivial⟩ Tryz.func121 0
def Dx:Av:=Au [g_2,g_6] (fun d=>(Ajm d.1 d.2.1).val) fun r=>([rv g_3 r.1],[rv g_2 r.2])
theorem Dt:Fn Tryz.prog 41 (.box [3] true true) Dx:=mkF [(68,(.box [3] true true),Cv)] ⟨Ct,trivial⟩ Tryz.func41 1
def We:Av:=Au [g_7] (fun d=>(Afh d.1).val) fun r=>([rv g_7 r],[])
theorem Abr:Fn Tryz.prog 124 .plain We:=mkF [] trivial Tryz.func124 0
def Afi:Av:=Au [g_8] (fun d=>(Aq3 d.1).val) fun r=>([rv g_8 r],[])
theorem Ane:Fn Tryz.prog 221 .plain Afi:=mkF [] trivial Tryz.func221 0
def N8:Av:=Au [g_9] (fun d=>(Afj d.1).val) fun r=>([rv g_9 r],[])
theorem Q9:Fn Tryz.prog 183 .plain N8:=mkF [(221,.plain,Afi)] ⟨Ane,trivial⟩ Tryz.func183 0
def Au8:Av:=Au [g_9,g_1] (fun d=>(Ajn d.1 d.2.1).val) fun r=>([rv g_9 r],[])
theorem A37:Fn Tryz.prog 184 .plain Au8:=mkF [(183,.plain,N8)] ⟨Q9,trivial⟩ Tryz.func184 0
def Ra:Av:=Au [Fk] (fun d=>(Abs d.1).val) fun r=>([rv Fk r],[])
theorem Xb:Fn Tryz.prog 125 .plain Ra:=mkF [(183,.plain,N8),(184,.plain,Au8)] ⟨Q9,A37,trivial⟩ Tryz.func125 0
def Abt:Av:=Au [g_5] (fun d=>(Abu d.1).val) fun r=>([rv g_5 r],[])
theorem Ajo:Fn Tryz.prog 49 .plain Abt:=mkF [(124,.plain,We),(125,.plain,Ra)] ⟨Abr,Xb,trivial⟩ Tryz.func49 0
def Abv:Av:=Au [Sy] (fun d=>(Abw d.1).val) fun r=>([rv g_1 r],[])
theorem Ajp:Fn Tryz.prog 78 .plain Abv:=mkF [(50,.plain,B4)] ⟨Bu,trivial⟩ Tryz.func78 0
def Adq:Av:=Au [g_7] (fun d=>(Py d.1).val) fun r=>([rv g_1 r],[])
theorem Aq4:Fn Tryz.prog 79 .plain Adq:=mkF [] trivial Tryz.func79 0
def Abx:Av:=Au [g_9] (fun d=>(Aby d.1).val) fun r=>([rv g_1 r],[])
theorem Ajq:Fn Tryz.prog 145 .plain Abx:=mkF [] trivial Tryz.func145 0
def Aiz:Av:=Au [Fk] (fun d=>(S1 d.1).val) fun r=>([rv g_1 r],[])
theorem Atj:Fn Tryz.prog 80 .plain Aiz:=mkF [(145,.plain,Abx)] ⟨Ajq,trivial⟩ Tryz.func80 0
def Ajr:Av:=Au [g_8,g_3] (fun d=>(Ajs d.1 d.2.1).val) fun r=>([rv g_1 r],[])
theorem Aq5:Fn Tryz.prog 229 .plain Ajr:=mkF [] trivial Tryz.func229 0
def Ajt:Av:=Au [g_8] (fun d=>(Aal d.1).val) fun r=>([rv g_1 r],[])
def R2:Fns:=[(50,.plain,B4),(229,.plain,Ajr)]
theorem Aju:CfgOk Tryz.prog (Eg R2):=G7 N6 Ku (show Ls Tryz.prog R2 from⟨Bu,Aq5,trivial⟩)
def Ajv:Sk:=⟨[(1,.box 1 0),(4,.v false [(.int .i64,.nil)])],[(1,[(.int .i64,.nil),(.sl 3 [.int .i64],.ro)])],[]⟩
def Ajw:List (Ex×Sk):=[(.ret,⟨[(2,.v false [(.bool,.nil)])],[],[]⟩),((.exit 2),⟨[],[],[]⟩)]
def Anf:Sk:=⟨[(1,.box 1 0),(3,.v false [(.int .i64,.nil)])],[(1,[(.int .i64,.nil),(.sl 3 [.int .i64],.ro)])],[]⟩
def Ang:List (Ex×Sk):=[(.ret,⟨[(2,.v false [(.bool,.nil)])],[],[]⟩),((.exit 0),⟨[(1,.box 1 0)],[(1,[(.int .i64,.nil),(.sl 3 [.int .i64],.ro)])],[]⟩)]
def R3:Hn:=fun i st=>cond (Nat.beq i 4) (lam Anf 5000000 Ang Ib st) <| cond (Nat.beq i 11) (lam Ajv 12000000 Ajw Fx st) <| .fail
theorem Ax6 (cx:Cx) (hp:cx.pin.length≤0):E6 Tryz.prog cx Tryz.f197.ntmps R3 (Be Tryz.f197 0):=F4 Aju hp (Dw (by kernel_rfl:Bq (Be Tryz.f197 0)=[]) trivial) (by kernel_rfl) (fun d=>(by kernel_rfl:bod (Eg R2) 0 Tryz.f197.ntmps R3 (Be Tryz.f197 0) Anf 5000000 Ang d=Ib d))
theorem Awx (cx:Cx) (hp:cx.pin.length≤0):E6 Tryz.prog cx Tryz.f197.ntmps R3 (Be Tryz.f197 1):=F4 Aju hp (Dw (by kernel_rfl:Bq (Be Tryz.f197 1)=[]) trivial) (by kernel_rfl) (fun d=>(by kernel_rfl:bod (Eg R2) 0 Tryz.f197.ntmps R3 (Be Tryz.f197 1) Ajv 12000000 Ajw d=Fx d))
theorem Aq6:Fn Tryz.prog 197 .plain Ajt:=Q7 Aju Tryz.func197 (by kernel_rfl) (by kernel_rfl) (fun cx b hp hb=>Dw (by kernel_rfl:Bq (Tryz.f197.body.getD .skip)=[Be Tryz.f197 0,Be Tryz.f197 1]) ⟨Ax6 cx hp,Awx cx hp,trivial⟩ b hb) (fun d=>(by kernel_rfl:Hv (Eg R2) 0 R3 Tryz.f197 .plain (mkA [g_8] d)=(Aal d.1).run fun r=>some ([rv g_1 r],[])))
def Afk:Av:=Au [g_9] (fun d=>(Ao2 d.1).val) fun r=>([rv g_1 r],[])
theorem Ajx:Fn Tryz.prog 146 .plain Afk:=mkF [(50,.plain,B4),(197,.plain,Ajt)] ⟨Bu,Aq6,trivial⟩ Tryz.func146 0
def N9:Av:=Au [Fk] (fun d=>(Afl d.1).val) fun r=>([rv g_1 r],[])
theorem Rb:Fn Tryz.prog 81 .plain N9:=mkF [(50,.plain,B4),(146,.plain,Afk),(145,.plain,Abx)] ⟨Bu,Ajx,Ajq,trivial⟩ Tryz.func81 0
def Jg:Av:=Au [g_3] (fun d=>(Afm d.1).val) fun r=>([rv g_1 r],[])
theorem J7:Fn Tryz.prog 147 .plain Jg:=mkF [(50,.plain,B4)] ⟨Bu,trivial⟩ Tryz.func147 0
def Wg:Av:=Au [g_3,g_3] (fun d=>(Afn d.1 d.2.1).val) fun r=>([rv g_1 r],[])
theorem Abz:Fn Tryz.prog 148 .plain Wg:=mkF [] trivial Tryz.func148 0
def J8:Av:=Au [g_7] (fun d=>(Ab0 d.1).val) fun r=>([rv g_1 r],[])
theorem Kw:Fn Tryz.prog 82 .plain J8:=mkF [(147,.plain,Jg),(50,.plain,B4),(148,.plain,Wg)] ⟨J7,Bu,Abz,trivial⟩ Tryz.func82 0
def Wh:Av:=Au [g_0,g_0] (fun d=>(Aq7 d.1 d.2.1).val) fun r=>([rv g_1 r],[])
theorem Ab1:Fn Tryz.prog 83 .plain Wh:=mkF [] trivial Tryz.func83 0
def Xc:Av:=Au [g_5] (fun d=>(Xd d.1).val) fun r=>([rv g_1 r],[])
theorem Ai0:Fn Tryz.prog 18 .plain Xc:=mkF [(50,.plain,B4),(76,.plain,R1),(77,.plain,Aff),(78,.plain,Abv),(79,.plain,Adq),(80,.plain,Aiz),(81,.plain,N9),(82,.plain,J8),(83,.plain,Wh)] ⟨Bu,Wd,Anc,Ajp,Aq4,Atj,Rb,Kw,Ab1,trivial⟩ Tryz.func18 0
def Kx:Av:=Au [g_3] (fun d=>(G8 d.1).val) fun r=>([rv Sy r],[])
theorem Mw:Fn Tryz.prog 51 .plain Kx:=mkF [(50,.plain,B4)] ⟨Bu,trivial⟩ Tryz.func51 0
def Anh:Av:=Au [g_5] (fun d=>(Rc d.1).val) fun r=>([rv g_7 r],[])
theorem Ax7:Fn Tryz.prog 52 .plain Anh:=mkF [] trivial Tryz.func52 0
def Ao3:Av:=Au [g_5,g_3,g_0] (fun d=>(Pz d.1 d.2.1 d.2.2.1).val) fun r=>([rv g_5 r.1,rv Ax3 r.2.1,rv Ax4 r.2.2.1,rv g_3 r.2.2.2],[])
theorem Au9:Fn Tryz.prog 10 .plain Ao3:=mkF [(49,.plain,Abt),(18,.plain,Xc),(50,.plain,B4),(51,.plain,Kx),(52,.plain,Anh)] ⟨Ajo,Ai0,Bu,Mw,Ax7,trivial⟩ Tryz.func10 0
def Adr:Av:=Au [Sy,g_3] (fun d=>(Es d.1 d.2.1).val) fun r=>([rv g_1 r],[])
theorem Aq8:Fn Tryz.prog 198 .plain Adr:=mkF [(78,.plain,Abv),(50,.plain,B4)] ⟨Ajp,Bu,trivial⟩ Tryz.func198 0
def S2:Av:=Au [Sy,g_3] (fun d=>(Gc d.1 d.2.1).val) fun r=>([rv Sy r.1,rv g_3 r.2],[])
theorem Ads:Fn Tryz.prog 150 .plain S2:=mkF [(198,.plain,Adr)] ⟨Aq8,trivial⟩ Tryz.func150 0
def Ai1:Av:=Au [g_2] (fun d=>(S3 d.1).val) fun r=>([rv g_7 r.1],[rv g_2 r.2])
theorem Atk:Fn Tryz.prog 66 (.box [3] true true) Ai1:=mkF [(42,(.box [3] true true),Eh),(68,(.box [3] true true),Cv)] ⟨Ei,Ct,trivial⟩ Tryz.func66 1
def Nd:Av:=Au [g_0,g_3,g_3] (fun d=>(Ao4 d.1 d.2.1 d.2.2.1).val) fun r=>([rv g_0 r],[])
theorem No:Fn Tryz.prog 204 .plain Nd:=D7 [] trivial ⟨[(1,.v false [(.int .i64,.nil)]),(7,.v false [(.sl 5 [.int .u8],(.own 6000000))]),(8,.v false [(.int .i64,.nil)])],[],[6000000]⟩ 6000000 [((.exit 0),⟨[(7,.v false [(.sl 5 [.int .u8],(.own 6000000))])],[],[6000000]⟩)] 5 Oa Tryz.func204 0
def A2t:Av:=Au [g_3] (fun d=>(Atl d.1).val) fun r=>([rv g_0 r],[])
theorem A87:Fn Tryz.prog 252 .plain A2t:=D7 [(204,.plain,Nd)] ⟨No,trivial⟩ ⟨[(0,.v false [(.int .i64,.nil)]),(3,.v false [(.sl 5 [.int .u8],(.own 5000000))])],[],[5000000]⟩ 5000000 [((.exit 0),⟨[(0,.v false [(.int .i64,.nil)]),(3,.v false [(.sl 5 [.int .u8],(.own 5000000))])],[],[5000000]⟩)] 4 Ajy Tryz.func252 0
def Ava:Av:=Au [] (fun d=>(Avb).val) fun r=>([rv g_6 r],[])
theorem A38:Fn Tryz.prog 253 .plain Ava:=mkF [] trivial Tryz.func253 0
def Ani:Av:=Au [g_6] (fun d=>(Ab2 d.1).val) fun r=>([rv g_1 r],[])
theorem Ax8:Fn Tryz.prog 260 .plain Ani:=D7 [(50,.plain,B4)] ⟨Bu,trivial⟩ ⟨[(0,.v false [(.sl 3 [.int .i64],.ro)]),(3,.v false [(.int .i64,.nil)])],[],[]⟩ 3000000 [(.ret,⟨[(2,.v false [(.bool,.nil)])],[],[]⟩),((.exit 0),⟨[(0,.v false [(.sl 3 [.int .i64],.ro)])],[],[]⟩)] 2 Jz Tryz.func260 0
def A2u:Av:=Au [] (fun d=>(A2v).val) fun r=>([rv g_6 r],[])
theorem A88:Fn Tryz.prog 261 .plain A2u:=mkF [] trivial Tryz.func261 0
def Ax9:Av:=Au [g_0,g_3,g_3] (fun d=>(Ao5 d.1 d.2.1 d.2.2.1).val) fun r=>([rv g_3 r.1,rv g_3 r.2.1,rv g_1 r.2.2],[])
theorem A6m:Fn Tryz.prog 269 .plain Ax9:=D7 [] trivial ⟨[(0,.v false [(.sl 5 [.int .u8],.ro)]),(1,.v false [(.int .i64,.nil)]),(2,.v false [(.int .i64,.nil)]),(9,.v false [(.int .i64,.nil)]),(10,.v false [(.int .i64,.nil)])],[],[]⟩ 6000000 [((.exit 0),⟨[(1,.v false [(.int .i64,.nil)]),(2,.v false [(.int .i64,.nil)]),(9,.v false [(.int .i64,.nil)])],[],[]⟩)] 5 Lu Tryz.func269 0
def Atm:Av:=Au [g_3,g_3] (fun d=>(Atn d.1 d.2.1).val) fun r=>([rv g_3 r],[])
theorem Aya:Fn Tryz.prog 263 .plain Atm:=mkF [] trivial Tryz.func263 0
def Ajz:Av:=Au [g_0] (fun d=>(Ob d.1).val) fun r=>([rv g_6 r],[])
def Ky:Fns:=[(269,.plain,Ax9),(263,.plain,Atm)]
theorem Xe:CfgOk Tryz.prog (Eg Ky):=G7 N6 Ku (show Ls Tryz.prog Ky from⟨A6m,Aya,trivial⟩)
def Aam:Sk:=⟨[(3,.v false [(.sl 3 [.int .i64],(.own 11000000))]),(8,.v false [(.int .i64,.nil)])],[],[11000000]⟩
def Aan:List (Ex×Sk):=[((.exit 2),⟨[(3,.v false [(.sl 3 [.int .i64],(.own 11000000))])],[],[11000000]⟩)]
def Adt:Sk:=⟨[(0,.v false [(.sl 5 [.int .u8],.ro)]),(3,.v false [(.sl 3 [.int .i64],(.own 6000000))]),(4,.v false [(.int .i64,.nil)])],[],[6000000]⟩
def Adu:List (Ex×Sk):=[((.exit 0),⟨[(3,.v false [(.sl 3 [.int .i64],(.own 6000000))])],[],[6000000]⟩)]
def Kz:Hn:=fun i st=>cond (Nat.beq i 5) (lam Adt 6000000 Adu Gt st) <| cond (Nat.beq i 10) (lam Aam 11000000 Aan F5 st) <| .fail
theorem Aq9 (cx:Cx) (hp:cx.pin.length≤0):E6 Tryz.prog cx Tryz.f262.ntmps Kz (Be Tryz.f262 0):=F4 Xe hp (Dw (by kernel_rfl:Bq (Be Tryz.f262 0)=[]) trivial) (by kernel_rfl) (fun d=>(by kernel_rfl:bod (Eg Ky) 0 Tryz.f262.ntmps Kz (Be Tryz.f262 0) Adt 6000000 Adu d=Gt d))
theorem Ao6 (cx:Cx) (hp:cx.pin.length≤0):E6 Tryz.prog cx Tryz.f262.ntmps Kz (Be Tryz.f262 1):=F4 Xe hp (Dw (by kernel_rfl:Bq (Be Tryz.f262 1)=[]) trivial) (by kernel_rfl) (fun d=>(by kernel_rfl:bod (Eg Ky) 0 Tryz.f262.ntmps Kz (Be Tryz.f262 1) Aam 11000000 Aan d=F5 d))
theorem Awy:Fn Tryz.prog 262 .plain Ajz:=Q7 Xe Tryz.func262 (by kernel_rfl) (by kernel_rfl) (fun cx b hp hb=>Dw (by kernel_rfl:Bq (Tryz.f262.body.getD .skip)=[Be Tryz.f262 0,Be Tryz.f262 1]) ⟨Aq9 cx hp,Ao6 cx hp,trivial⟩ b hb) (fun d=>(by kernel_rfl:Hv (Eg Ky) 0 Kz Tryz.f262 .plain (mkA [g_0] d)=(Ob d.1).run fun r=>some ([rv g_6 r],[])))
def Aj0:Av:=Au [g_6,g_0] (fun d=>(Oc d.1 d.2.1).val) fun r=>([rv g_6 r],[])
def K0:Fns:=[(260,.plain,Ani),(261,.plain,A2u),(262,.plain,Ajz),(263,.plain,Atm)]
theorem Xf:CfgOk Tryz.prog (Eg K0):=G7 N6 Ku (show Ls Tryz.prog K0 from⟨Ax8,A88,Awy,Aya,trivial⟩)
def Aao:Sk:=⟨[(0,.v false [(.sl 3 [.int .i64],.ro)]),(5,.v false [(.sl 3 [.int .i64],(.own 23000000))]),(19,.v false [(.sl 3 [.int .i64],(.own 23000001))]),(20,.v false [(.int .i64,.nil)])],[],[23000000,23000001]⟩
def Aap:List (Ex×Sk):=[((.exit 2),⟨[(5,.v false [(.sl 3 [.int .i64],(.own 23000000))])],[],[23000000]⟩)]
def Adv:Sk:=⟨[(0,.v false [(.sl 3 [.int .i64],.ro)]),(5,.v false [(.sl 3 [.int .i64],(.own 9000000))]),(6,.v false [(.sl 3 [.int .i64],(.own 9000001))]),(7,.v false [(.sl 3 [.int .i64],(.own 9000002))]),(8,.v false [(.int .i64,.nil)]),(9,.v false [(.int .i64,.nil)]),(10,.v false [(.int .i64,.nil)]),(11,.v false [(.int .i64,.nil)]),(12,.v false [(.int .i64,.nil)]),(13,.v false [(.int .i64,.nil)]),(14,.v false [(.int .i64,.nil)]),(15,.v false [(.int .i64,.nil)]),(16,.v false [(.int .i64,.nil)])],[],[9000000,9000001,9000002]⟩
def Adw:List (Ex×Sk):=[((.exit 0),⟨[(0,.v false [(.sl 3 [.int .i64],.ro)]),(5,.v false [(.sl 3 [.int .i64],(.own 9000000))]),(8,.v false [(.int .i64,.nil)]),(9,.v false [(.int .i64,.nil)]),(10,.v false [(.int .i64,.nil)]),(11,.v false [(.int .i64,.nil)]),(12,.v false [(.int .i64,.nil)]),(13,.v false [(.int .i64,.nil)]),(14,.v false [(.int .i64,.nil)]),(15,.v false [(.int .i64,.nil)])],[],[9000000]⟩)]
def K1:Hn:=fun i st=>cond (Nat.beq i 8) (lam Adv 9000000 Adw Fl st) <| cond (Nat.beq i 22) (lam Aao 23000000 Aap E7 st) <| .fail
theorem Ara (cx:Cx) (hp:cx.pin.length≤0):E6 Tryz.prog cx Tryz.f254.ntmps K1 (Be Tryz.f254 0):=F4 Xf hp (Dw (by kernel_rfl:Bq (Be Tryz.f254 0)=[]) trivial) (by kernel_rfl) (fun d=>(by kernel_rfl:bod (Eg K0) 0 Tryz.f254.ntmps K1 (Be Tryz.f254 0) Adv 9000000 Adw d=Fl d))
theorem Ao7 (cx:Cx) (hp:cx.pin.length≤0):E6 Tryz.prog cx Tryz.f254.ntmps K1 (Be Tryz.f254 1):=F4 Xf hp (Dw (by kernel_rfl:Bq (Be Tryz.f254 1)=[]) trivial) (by kernel_rfl) (fun d=>(by kernel_rfl:bod (Eg K0) 0 Tryz.f254.ntmps K1 (Be Tryz.f254 1) Aao 23000000 Aap d=E7 d))
theorem Awz:Fn Tryz.prog 254 .plain Aj0:=Q7 Xf Tryz.func254 (by kernel_rfl) (by kernel_rfl) (fun cx b hp hb=>Dw (by kernel_rfl:Bq (Tryz.f254.body.getD .skip)=[Be Tryz.f254 0,Be Tryz.f254 1]) ⟨Ara cx hp,Ao7 cx hp,trivial⟩ b hb) (fun d=>(by kernel_rfl:Hv (Eg K0) 0 K1 Tryz.f254 .plain (mkA [g_6,g_0] d)=(Oc d.1 d.2.1).run fun r=>some ([rv g_6 r],[])))
def Avc:Av:=Au [g_6] (fun d=>(Aj1 d.1).val) fun r=>([rv g_0 r],[])
theorem A39:Fn Tryz.prog 255 .plain Avc:=D7 [(204,.plain,Nd)] ⟨No,trivial⟩ ⟨[(0,.v false [(.sl 3 [.int .i64],.ro)]),(3,.v false [(.sl 5 [.int .u8],(.own 4000000))]),(4,.v false [(.int .i64,.nil)])],[],[4000000]⟩ 4000000 [((.exit 0),⟨[(3,.v false [(.sl 5 [.int .u8],(.own 4000000))])],[],[4000000]⟩)] 3 J9 Tryz.func255 0
def Ato:Av:=Au [g_0] (fun d=>(Atp d.1).val) fun r=>([rv g_0 r],[])
theorem Ayb:Fn Tryz.prog 246 .plain Ato:=D7 [(252,.plain,A2t),(253,.plain,Ava),(254,.plain,Aj0),(255,.plain,Avc)] ⟨A87,A38,Awz,A39,trivial⟩ ⟨[(3,.v false [(.sl 5 [.int .u8],(.own 7000000))]),(4,.v false [(.sl 3 [.int .i64],(.own 7000001))]),(5,.v false [(.int .i64,.nil)])],[],[7000000,7000001]⟩ 7000000 [((.exit 0),⟨[(4,.v false [(.sl 3 [.int .i64],(.own 7000000))])],[],[7000000]⟩)] 6 Np Tryz.func246 0
def Aj2:Av:=Au [g_0] (fun d=>(Xg d.1).val) fun r=>([rv g_0 r],[])
theorem Aw0:Fn Tryz.prog 245 .plain Aj2:=D7 [(246,.plain,Ato)] ⟨Ayb,trivial⟩ ⟨[(3,.v false [(.sl 5 [.int .u8],(.own 7000000))])],[],[7000000]⟩ 7000000 [((.exit 0),⟨[(3,.v false [(.sl 5 [.int .u8],(.own 7000000))])],[],[7000000]⟩)] 6 Lv Tryz.func245 0
def Xh:Av:=Au [g_0,g_0] (fun d=>(Ao8 d.1 d.2.1).val) fun r=>([rv g_0 r],[])
theorem Aaq:Fn Tryz.prog 226 .plain Xh:=D7 [(245,.plain,Aj2),(246,.plain,Ato)] ⟨Aw0,Ayb,trivial⟩ ⟨[(1,.v false [(.sl 5 [.int .u8],.ro)]),(5,.v false [(.sl 5 [.int .u8],(.own 8000000))]),(6,.v false [(.sl 5 [.int .u8],(.own 8000001))]),(7,.v false [(.sl 5 [.int .u8],(.own 8000002))]),(8,.v false [(.int .i64,.nil)])],[],[8000000,8000001,8000002]⟩ 8000000 [((.exit 0),⟨[(1,.v false [(.sl 5 [.int .u8],.ro)]),(6,.v false [(.sl 5 [.int .u8],(.own 8000000))]),(7,.v false [(.sl 5 [.int .u8],(.own 8000001))])],[],[8000000,8000001]⟩)] 7 Lw Tryz.func226 0
def Ab3:Av:=Au [g_0,g_0] (fun d=>(Rd d.1 d.2.1).val) fun r=>([rv g_0 r],[])
theorem Aj3:Fn Tryz.prog 234 .plain Ab3:=mkF [(226,.plain,Xh)] ⟨Aaq,trivial⟩ Tryz.func234 0
def Arb:Av:=Au [g_0,g_0,g_3] (fun d=>(Afo d.1 d.2.1 d.2.2.1).val) fun r=>([rv g_0 r.1,rv g_1 r.2],[])
theorem A1d:Fn Tryz.prog 237 .plain Arb:=D7 [(50,.plain,B4),(226,.plain,Xh)] ⟨Bu,Aaq,trivial⟩ ⟨[(0,.v false [(.sl 5 [.int .u8],.ro)]),(1,.v false [(.sl 5 [.int .u8],.ro)]),(2,.v false [(.int .i64,.nil)]),(8,.v false [(.sl 5 [.int .u8],(.own 7000000))]),(9,.v false [(.sl 5 [.int .u8],(.own 7000001))]),(10,.v false [(.int .i64,.nil)])],[],[7000000,7000001]⟩ 7000000 [((.exit 0),⟨[(2,.v false [(.int .i64,.nil)]),(8,.v false [(.sl 5 [.int .u8],(.own 7000000))])],[],[7000000]⟩)] 6 Ij Tryz.func237 0
def Od:Av:=Au [g_0,Bd5] (fun d=>(Afp d.1 d.2.1).val) fun r=>([rv g_0 r],[])
theorem Re:Fn Tryz.prog 206 .plain Od:=mkF [(237,.plain,Arb)] ⟨A1d,trivial⟩ Tryz.func206 0
def S4:Av:=Au [g_0] (fun d=>(S5 d.1).val) fun r=>([rv g_0 r],[])
theorem Adx:Fn Tryz.prog 202 .plain S4:=mkF [(76,.plain,R1),(234,.plain,Ab3),(206,.plain,Od)] ⟨Wd,Aj3,Re,trivial⟩ Tryz.func202 0
def S6:Av:=Au [g_3,g_0,g_0,g_3,g_0] (fun d=>(S7 d.1 d.2.1 d.2.2.1 d.2.2.2.1 d.2.2.2.2.1).val) fun r=>([rv g_0 r],[])
theorem Ady:Fn Tryz.prog 203 .plain S6:=mkF [(50,.plain,B4),(204,.plain,Nd)] ⟨Bu,No,trivial⟩ Tryz.func203 0
def Amr:Av:=Au [g_0,g_0] (fun d=>(Atq d.1 d.2.1).val) fun r=>([rv g_0 r],[])
theorem Ao9:Fn Tryz.prog 190 .plain Amr:=mkF [(226,.plain,Xh)] ⟨Aaq,trivial⟩ Tryz.func190 0
def Avd:Av:=Au [g_0,g_3,g_0,g_0,g_3,g_0] (fun d=>(Aj4 d.1 d.2.1 d.2.2.1 d.2.2.2.1 d.2.2.2.2.1 d.2.2.2.2.2.1).val) fun r=>([rv g_0 r],[])
theorem A4a:Fn Tryz.prog 230 .plain Avd:=mkF [(202,.plain,S4),(203,.plain,S6),(190,.plain,Amr)] ⟨Adx,Ady,Ao9,trivial⟩ Tryz.func230 0
def Aj5:Av:=Au [g_0,g_3,g_7] (fun d=>(Xi d.1 d.2.1 d.2.2.1).val) fun r=>([rv g_7 r.1,rv g_1 r.2],[])
theorem Aw1:Fn Tryz.prog 199 .plain Aj5:=mkF [(82,.plain,J8),(230,.plain,Avd),(124,.plain,We)] ⟨Kw,A4a,Abr,trivial⟩ Tryz.func199 0
def Anj:Av:=Au [g_0,g_0,g_0] (fun d=>(Ab4 d.1 d.2.1 d.2.2.1).val) fun r=>([rv g_0 r],[])
theorem Ayc:Fn Tryz.prog 232 .plain Anj:=mkF [(76,.plain,R1),(234,.plain,Ab3)] ⟨Wd,Aj3,trivial⟩ Tryz.func232 0
def Aj6:Av:=Au [g_0] (fun d=>(Xj d.1).val) fun r=>([rv g_0 r],[])
theorem Aw2:Fn Tryz.prog 231 .plain Aj6:=mkF [(206,.plain,Od)] ⟨Re,trivial⟩ Tryz.func231 0
def Ave:Av:=Au [g_0,g_3] (fun d=>(Aj7 d.1 d.2.1).val) fun r=>([rv g_0 r],[])
theorem A4b:Fn Tryz.prog 233 .plain Ave:=D7 [(50,.plain,B4),(206,.plain,Od)] ⟨Bu,Re,trivial⟩ ⟨[(1,.v false [(.int .i64,.nil)]),(5,.v false [(.sl 5 [.int .u8],(.own 6000000))]),(6,.v false [(.int .i64,.nil)])],[],[6000000]⟩ 6000000 [((.exit 0),⟨[(5,.v false [(.sl 5 [.int .u8],(.own 6000000))])],[],[6000000]⟩)] 5 Ka Tryz.func233 0
def Aj8:Av:=Au [g_0,g_0,g_0,g_3] (fun d=>(Xk d.1 d.2.1 d.2.2.1 d.2.2.2.1).val) fun r=>([rv g_0 r],[])
theorem Aw3:Fn Tryz.prog 201 .plain Aj8:=mkF [(232,.plain,Anj),(231,.plain,Aj6),(233,.plain,Ave)] ⟨Ayc,Aw2,A4b,trivial⟩ Tryz.func201 0
def Afq:Av:=Au [] (fun d=>(Afr).val) fun r=>([rv g_8 r],[])
theorem Ank:Fn Tryz.prog 188 .plain Afq:=D7 [] trivial ⟨[(0,.box 0 0),(1,.box 1 0),(2,.v false [(.int .i64,.nil)])],[(0,[(.int .i64,.nil),(.sl 3 [.int .i64],(.own 4000000))]),(1,[(.int .i64,.nil),(.sl 3 [.int .i64],(.own 4000001))])],[4000000,4000001]⟩ 4000000 [((.exit 0),⟨[(0,.box 0 0),(1,.box 1 0)],[(0,[(.int .i64,.nil),(.sl 3 [.int .i64],(.own 4000000))]),(1,[(.int .i64,.nil),(.sl 3 [.int .i64],(.own 4000001))])],[4000000,4000001]⟩)] 3 Ik Tryz.func188 0
def R4:Av:=Au [g_3,g_0] (fun d=>(R5 d.1 d.2.1).val) fun r=>([rv g_9 r],[])
theorem Wi:Fn Tryz.prog 134 .plain R4:=mkF [(50,.plain,B4),(188,.plain,Afq)] ⟨Bu,Ank,trivial⟩ Tryz.func134 0
def Ab5:Av:=Au [g_3,g_0,g_0] (fun d=>(Rf d.1 d.2.1 d.2.2.1).val) fun r=>([rv Fk r],[])
theorem Aj9:Fn Tryz.prog 200 .plain Ab5:=mkF [(50,.plain,B4),(134,.plain,R4)] ⟨Bu,Wi,trivial⟩ Tryz.func200 0
def Apa:Av:=Au [g_0,g_0] (fun d=>(Apb d.1 d.2.1).val) fun r=>([rv Ati r],[])
theorem Avf:Fn Tryz.prog 176 .plain Apa:=mkF [] trivial Tryz.func176 0
def Oe:Av:=Au [g_3,g_0,g_3,g_3] (fun d=>(Afs d.1 d.2.1 d.2.2.1 d.2.2.2.1).val) fun r=>([rv g_0 r],[])
theorem Rg:Fn Tryz.prog 172 .plain Oe:=mkF [(50,.plain,B4),(204,.plain,Nd)] ⟨Bu,No,trivial⟩ Tryz.func172 0
def Il:Av:=Au [g_3,g_7] (fun d=>(Xl d.1 d.2.1).val) fun r=>([rv g_0 r],[])
theorem J0:Fn Tryz.prog 105 .plain Il:=mkF [(50,.plain,B4),(82,.plain,J8),(147,.plain,Jg),(172,.plain,Oe)] ⟨Bu,Kw,J7,Rg,trivial⟩ Tryz.func105 0
def Anl:Av:=Au [g_3] (fun d=>(Ab6 d.1).val) fun r=>([rv g_3 r],[])
theorem Ayd:Fn Tryz.prog 242 .plain Anl:=mkF [] trivial Tryz.func242 0
def Aft:Av:=Au [g_8,g_3] (fun d=>(Afu d.1 d.2.1).val) fun r=>([rv g_1 r],[])
theorem Anm:Fn Tryz.prog 215 .plain Aft:=mkF [(197,.plain,Ajt),(50,.plain,B4),(242,.plain,Anl),(229,.plain,Ajr)] ⟨Aq6,Bu,Ayd,Aq5,trivial⟩ Tryz.func215 0
def Aye:Av:=Au [g_0,g_0] (fun d=>(Apc d.1 d.2.1).val) fun r=>([rv g_3 r],[])
theorem A6n:Fn Tryz.prog 251 .plain Aye:=D7 [] trivial ⟨[(0,.v false [(.sl 5 [.int .u8],.ro)]),(1,.v false [(.sl 5 [.int .u8],.ro)]),(5,.v false [(.int .i64,.nil)]),(6,.v false [(.int .i64,.nil)])],[],[]⟩ 6000000 [((.exit 0),⟨[(5,.v false [(.int .i64,.nil)])],[],[]⟩)] 5 Of Tryz.func251 0
def Ann:Av:=Au [g_0,g_0] (fun d=>(Ab7 d.1 d.2.1).val) fun r=>([rv g_1 r],[])
theorem Ayf:Fn Tryz.prog 243 .plain Ann:=mkF [(251,.plain,Aye)] ⟨A6n,trivial⟩ Tryz.func243 0
def Ano:Av:=Au [g_0,g_0,g_3] (fun d=>(Ab8 d.1 d.2.1 d.2.2.1).val) fun r=>([rv g_0 r],[])
theorem Ayg:Fn Tryz.prog 244 .plain Ano:=mkF [(50,.plain,B4),(204,.plain,Nd),(226,.plain,Xh)] ⟨Bu,No,Aaq,trivial⟩ Tryz.func244 0
def Arc:Av:=Au [g_0,g_0,g_3] (fun d=>(Afv d.1 d.2.1 d.2.2.1).val) fun r=>([rv g_0 r],[])
theorem A1e:Fn Tryz.prog 225 .plain Arc:=D7 [(50,.plain,B4),(244,.plain,Ano)] ⟨Bu,Ayg,trivial⟩ ⟨[(0,.v false [(.sl 5 [.int .u8],.ro)]),(1,.v false [(.sl 5 [.int .u8],.ro)]),(2,.v false [(.int .i64,.nil)]),(7,.v false [(.sl 5 [.int .u8],(.own 6000000))]),(8,.v false [(.int .i64,.nil)])],[],[6000000]⟩ 6000000 [((.exit 0),⟨[(2,.v false [(.int .i64,.nil)]),(7,.v false [(.sl 5 [.int .u8],(.own 6000000))])],[],[6000000]⟩)] 5 Im Tryz.func225 0
def Atr:Av:=Au [g_0,g_0,g_0] (fun d=>(Ats d.1 d.2.1 d.2.2.1).val) fun r=>([rv g_0 r],[])
theorem Ayh:Fn Tryz.prog 189 .plain Atr:=D7 [(225,.plain,Arc)] ⟨A1e,trivial⟩ ⟨[(2,.v false [(.sl 5 [.int .u8],.ro)]),(7,.v false [(.sl 5 [.int .u8],(.own 7000000))]),(8,.v false [(.sl 5 [.int .u8],(.own 7000001))]),(9,.v false [(.int .i64,.nil)])],[],[7000000,7000001]⟩ 7000000 [((.exit 0),⟨[(7,.v false [(.sl 5 [.int .u8],(.own 7000000))])],[],[7000000]⟩)] 6 Nq Tryz.func189 0
def Ard:Av:=Au [g_0,g_3,g_7] (fun d=>(Afw d.1 d.2.1 d.2.2.1).val) fun r=>([rv g_0 r.1,rv g_1 r.2],[])
theorem A1f:Fn Tryz.prog 216 .plain Ard:=mkF [(105,.plain,Il),(190,.plain,Amr),(243,.plain,Ann),(172,.plain,Oe),(189,.plain,Atr)] ⟨J0,Ao9,Ayf,Rg,Ayh,trivial⟩ Tryz.func216 0
def Afx:Av:=Au [g_8,g_3] (fun d=>(Afy d.1 d.2.1).val) fun r=>([rv g_8 r.1,rv g_1 r.2],[])
theorem Anp:Fn Tryz.prog 217 .plain Afx:=D7 [(221,.plain,Afi),(215,.plain,Aft)] ⟨Ane,Anm,trivial⟩ ⟨[(1,.v false [(.int .i64,.nil)]),(2,.box 2 0),(4,.box 4 0),(6,.box 6 0),(7,.v false [(.int .i64,.nil)]),(8,.v false [(.int .i64,.nil)])],[(2,[(.int .i64,.nil),(.sl 3 [.int .i64],.ro)]),(4,[(.int .i64,.nil),(.sl 3 [.int .i64],(.own 7000000))]),(6,[(.int .i64,.nil),(.sl 3 [.int .i64],(.own 7000001))])],[7000000,7000001]⟩ 7000000 [((.exit 0),⟨[(1,.v false [(.int .i64,.nil)]),(2,.box 2 0),(4,.box 4 0),(6,.box 6 0)],[(2,[(.int .i64,.nil),(.sl 3 [.int .i64],.ro)]),(4,[(.int .i64,.nil),(.sl 3 [.int .i64],(.own 7000000))]),(6,[(.int .i64,.nil),(.sl 3 [.int .i64],(.own 7000001))])],[7000000,7000001]⟩)] 6 Ip Tryz.func217 0
def Are:Av:=Au [g_9,g_3,g_7] (fun d=>(Afz d.1 d.2.1 d.2.2.1).val) fun r=>([rv g_9 r.1,rv g_0 r.2.1,rv g_3 r.2.2],[])
theorem A1g:Fn Tryz.prog 171 .plain Are:=mkF [(183,.plain,N8),(146,.plain,Afk),(105,.plain,Il),(215,.plain,Aft),(216,.plain,Ard),(217,.plain,Afx)] ⟨Q9,Ajx,J0,Anm,A1f,Anp,trivial⟩ Tryz.func171 0
def Aka:Av:=Au [Fk,g_3,g_7] (fun d=>(Og d.1 d.2.1 d.2.2.1).val) fun r=>([rv Fk r.1,rv g_0 r.2.1,rv g_3 r.2.2],[])
theorem Aw4:Fn Tryz.prog 102 .plain Aka:=mkF [(125,.plain,Ra),(81,.plain,N9),(50,.plain,B4),(82,.plain,J8),(147,.plain,Jg),(83,.plain,Wh),(171,.plain,Are),(134,.plain,R4)] ⟨Xb,Rb,Bu,Kw,J7,Ab1,A1g,Wi,trivial⟩ Tryz.func102 0
def Arf:Av:=Au [Fk,g_3] (fun d=>(Af0 d.1 d.2.1).val) fun r=>([rv g_0 r.1,rv g_1 r.2],[])
theorem A1h:Fn Tryz.prog 103 .plain Arf:=mkF [(81,.plain,N9)] ⟨Rb,trivial⟩ Tryz.func103 0
def Ayi:Av:=Au [g_0,g_0,g_0] (fun d=>(Apd d.1 d.2.1 d.2.2.1).val) fun r=>([rv Ati r],[])
theorem A6o:Fn Tryz.prog 104 .plain Ayi:=mkF [] trivial Tryz.func104 0
def Ape:Av:=Au [g_0,g_3,g_0,g_3,g_3,g_3,g_0] (fun d=>(Af1 d.1 d.2.1 d.2.2.1 d.2.2.2.1 d.2.2.2.2.1 d.2.2.2.2.2.1 d.2.2.2.2.2.2.1).val) fun r=>([rv g_7 r.1,rv g_1 r.2],[])
def Af2:Fns:=[(172,.plain,Oe),(147,.plain,Jg),(148,.plain,Wg),(189,.plain,Atr),(105,.plain,Il),(190,.plain,Amr)]
theorem Ayj:CfgOk Tryz.prog (Eg Af2):=G7 N6 Ku (show Ls Tryz.prog Af2 from⟨Rg,J7,Abz,Ayh,J0,Ao9,trivial⟩)
def Arg:Sk:=⟨[(0,.v false [(.sl 5 [.int .u8],.ro)]),(1,.v false [(.int .i64,.nil)]),(14,.box 14 0),(17,.box 17 0),(18,.v false [(.int .i64,.nil)])],[(14,[(.int .i64,.nil),(.int .i64,.nil),(.sl 5 [.int .u8],(.own 7000000)),(.sl 5 [.int .u8],(.own 7000001)),(.int .i64,.nil),(.sl 5 [.int .u8],(.own 7000002)),(.sl 5 [.int .u8],(.own 7000003)),(.int .i64,.nil),(.int .i64,.nil),(.sl 5 [.int .u8],(.own 7000004)),(.sl 5 [.int .u8],(.own 7000005))]),(17,[(.int .i64,.nil),(.int .i64,.nil),(.sl 5 [.int .u8],(.own 7000006)),(.sl 5 [.int .u8],(.own 7000007)),(.int .i64,.nil),(.sl 5 [.int .u8],(.own 7000008)),(.sl 5 [.int .u8],(.own 7000009)),(.int .i64,.nil),(.int .i64,.nil),(.sl 5 [.int .u8],(.own 7000010)),(.sl 5 [.int .u8],(.own 7000011))])],[7000000,7000001,7000002,7000003,7000004,7000005,7000006,7000007,7000008,7000009,7000010,7000011]⟩
def Arh:List (Ex×Sk):=[((.exit 0),⟨[(0,.v false [(.sl 5 [.int .u8],.ro)]),(1,.v false [(.int .i64,.nil)]),(14,.box 14 0),(17,.box 17 0)],[(14,[(.int .i64,.nil),(.int .i64,.nil),(.sl 5 [.int .u8],(.own 7000000)),(.sl 5 [.int .u8],(.own 7000001)),(.int .i64,.nil),(.sl 5 [.int .u8],(.own 7000002)),(.sl 5 [.int .u8],(.own 7000003)),(.int .i64,.nil),(.int .i64,.nil),(.sl 5 [.int .u8],(.own 7000004)),(.sl 5 [.int .u8],(.own 7000005))]),(17,[(.int .i64,.nil),(.int .i64,.nil),(.sl 5 [.int .u8],(.own 7000006)),(.sl 5 [.int .u8],(.own 7000007)),(.int .i64,.nil),(.sl 5 [.int .u8],(.own 7000008)),(.sl 5 [.int .u8],(.own 7000009)),(.int .i64,.nil),(.int .i64,.nil),(.sl 5 [.int .u8],(.own 7000010)),(.sl 5 [.int .u8],(.own 7000011))])],[7000000,7000001,7000002,7000003,7000004,7000005,7000006,7000007,7000008,7000009,7000010,7000011]⟩)]
def Apf:Hn:=fun i st=>cond (Nat.beq i 6) (lam Arg 7000000 Arh Jh st) <| .fail
theorem A1i (cx:Cx) (hp:cx.pin.length≤0):E6 Tryz.prog cx Tryz.f135.ntmps Apf (Be Tryz.f135 0):=F4 Ayj hp (Dw (by kernel_rfl:Bq (Be Tryz.f135 0)=[]) trivial) (by kernel_rfl) (fun d=>(by kernel_rfl:bod (Eg Af2) 0 Tryz.f135.ntmps Apf (Be Tryz.f135 0) Arg 7000000 Arh d=Jh d))
theorem Avg:Fn Tryz.prog 135 .plain Ape:=Q7 Ayj Tryz.func135 (by kernel_rfl) (by kernel_rfl) (fun cx b hp hb=>Dw (by kernel_rfl:Bq (Tryz.f135.body.getD .skip)=[Be Tryz.f135 0]) ⟨A1i cx hp,trivial⟩ b hb) (fun d=>(by kernel_rfl:Hv (Eg Af2) 0 Apf Tryz.f135 .plain (mkA [g_0,g_3,g_0,g_3,g_3,g_3,g_0] d)=(Af1 d.1 d.2.1 d.2.2.1 d.2.2.2.1 d.2.2.2.2.1 d.2.2.2.2.2.1 d.2.2.2.2.2.2.1).run fun r=>some ([rv g_7 r.1,rv g_1 r.2],[])))
def Ari:Av:=Au [g_9,g_3,g_0,g_3,g_0] (fun d=>(Af3 d.1 d.2.1 d.2.2.1 d.2.2.2.1 d.2.2.2.2.1).val) fun r=>([rv g_9 r.1,rv g_7 r.2.1,rv g_3 r.2.2],[])
theorem A1j:Fn Tryz.prog 178 .plain Ari:=mkF [(183,.plain,N8),(146,.plain,Afk),(172,.plain,Oe),(147,.plain,Jg),(148,.plain,Wg),(135,.plain,Ape)] ⟨Q9,Ajx,Rg,J7,Abz,Avg,trivial⟩ Tryz.func178 0
def Akb:Av:=Au [Fk,g_3,g_0] (fun d=>(Xm d.1 d.2.1 d.2.2.1).val) fun r=>([rv Fk r.1,rv g_7 r.2.1,rv g_3 r.2.2],[])
theorem Aw5:Fn Tryz.prog 111 .plain Akb:=mkF [(125,.plain,Ra),(81,.plain,N9),(178,.plain,Ari)] ⟨Xb,Rb,A1j,trivial⟩ Tryz.func111 0
def Anq:Av:=Au [Fk,g_7] (fun d=>(Ab9 d.1 d.2.1).val) fun r=>([rv Ati r],[])
theorem Ayk:Fn Tryz.prog 109 .plain Anq:=mkF [(105,.plain,Il),(176,.plain,Apa)] ⟨J0,Avf,trivial⟩ Tryz.func109 0
def Adz:Av:=Au [g_5,g_3,g_7] (fun d=>(P0 d.1 d.2.1 d.2.2.1).val) fun r=>([rv g_5 r.1,rv Ax3 r.2.1,rv Ax4 r.2.2],[])
theorem Arj:Fn Tryz.prog 151 .plain Adz:=mkF [(49,.plain,Abt),(18,.plain,Xc),(50,.plain,B4),(82,.plain,J8),(83,.plain,Wh),(199,.plain,Aj5),(201,.plain,Aj8),(200,.plain,Ab5),(51,.plain,Kx),(202,.plain,S4),(203,.plain,S6),(176,.plain,Apa),(124,.plain,We),(147,.plain,Jg),(102,.plain,Aka),(103,.plain,Arf),(105,.plain,Il),(104,.plain,Ayi),(111,.plain,Akb),(109,.plain,Anq)] ⟨Ajo,Ai0,Bu,Kw,Ab1,Aw1,Aw3,Aj9,Mw,Adx,Ady,Avf,Abr,J7,Aw4,A1h,J0,A6o,Aw5,Ayk,trivial⟩ Tryz.func151 0
def Ai2:Av:=Au [g_3] (fun d=>(S8 d.1).val) fun r=>([rv g_0 r],[])
theorem Att:Fn Tryz.prog 152 .plain Ai2:=mkF [(50,.plain,B4),(204,.plain,Nd)] ⟨Bu,No,trivial⟩ Tryz.func152 0
def Ji:Av:=Au [g_2,g_3] (fun d=>(Af4 d.1 d.2.1).val) fun r=>([rv g_1 r.1],[rv g_2 r.2])
theorem Kb:Fn Tryz.prog 39 (.box [3] true true) Ji:=mkF [(68,(.box [3] true true),Cv)] ⟨Ct,trivial⟩ Tryz.func39 1
def Ark:Av:=Au [g_2,g_3] (fun d=>(Af5 d.1 d.2.1).val) fun r=>([rv g_6 r.1],[rv g_2 r.2])
theorem A1k:Fn Tryz.prog 236 (.box [3] true true) Ark:=D7 [(41,(.box [3] true true),Dx),(68,(.box [3] true true),Cv),(39,(.box [3] true true),Ji)] ⟨Dt,Ct,Kb,trivial⟩ ⟨[(0,.box 0 0),(5,.v false [(.sl 3 [.int .i64],(.own 5000000))]),(6,.v false [(.int .i64,.nil)]),(7,.v false [(.int .i64,.nil)])],[(0,[(.sl 5 [.int .u8],(.pin 0)),(.int .i64,.nil),(.int .i64,.nil)])],[5000000]⟩ 5000000 [((.exit 0),⟨[(0,.box 0 0),(5,.v false [(.sl 3 [.int .i64],(.own 5000000))])],[(0,[(.sl 5 [.int .u8],(.pin 0)),(.int .i64,.nil),(.int .i64,.nil)])],[5000000]⟩)] 4 Oh Tryz.func236 1
def Avh:Av:=Au [g_6] (fun d=>(Akc d.1).val) fun r=>([rv g_8 r],[])
theorem A4c:Fn Tryz.prog 235 .plain Avh:=D7 [(188,.plain,Afq),(217,.plain,Afx)] ⟨Ank,Anp,trivial⟩ ⟨[(0,.v false [(.sl 3 [.int .i64],.ro)]),(2,.box 2 0),(3,.box 3 0),(4,.v false [(.int .i64,.nil)])],[(2,[(.int .i64,.nil),(.sl 3 [.int .i64],(.own 4000000))]),(3,[(.int .i64,.nil),(.sl 3 [.int .i64],(.own 4000001))])],[4000000,4000001]⟩ 4000000 [((.exit 0),⟨[(2,.box 2 0),(3,.box 3 0)],[(2,[(.int .i64,.nil),(.sl 3 [.int .i64],(.own 4000000))]),(3,[(.int .i64,.nil),(.sl 3 [.int .i64],(.own 4000001))])],[4000000,4000001]⟩)] 3 Rh Tryz.func235 0
def Wj:Av:=Au [g_2] (fun d=>(Af6 d.1).val) fun r=>([rv g_8 r.1],[rv g_2 r.2])
theorem Aca:Fn Tryz.prog 205 (.box [3] true true) Wj:=mkF [(236,(.box [3] true true),Ark),(235,.plain,Avh)] ⟨A1k,A4c,trivial⟩ Tryz.func205 1
def Acb:Av:=Au [g_2,g_3] (fun d=>(Acc d.1 d.2.1).val) fun r=>([rv Fk r.1],[rv g_2 r.2])
theorem Akd:Fn Tryz.prog 153 (.box [3] true true) Acb:=mkF [(42,(.box [3] true true),Eh),(200,.plain,Ab5),(41,(.box [3] true true),Dx),(39,(.box [3] true true),Ji),(205,(.box [3] true true),Wj),(206,.plain,Od),(134,.plain,R4)] ⟨Ei,Aj9,Dt,Kb,Aca,Re,Wi,trivial⟩ Tryz.func153 1
def Acd:Av:=Au [g_2,g_3] (fun d=>(Ace d.1 d.2.1).val) fun r=>([rv Sy r.1],[rv g_2 r.2])
theorem Ake:Fn Tryz.prog 154 (.box [3] true true) Acd:=D7 [(51,.plain,Kx),(68,(.box [3] true true),Cv),(150,.plain,S2)] ⟨Mw,Ct,Ads,trivial⟩ ⟨[(0,.box 0 0),(4,.box 4 0),(5,.box 5 0),(6,.v false [(.int .i64,.nil)])],[(0,[(.sl 5 [.int .u8],(.pin 0)),(.int .i64,.nil),(.int .i64,.nil)]),(4,[(.bool,.nil),(.int .i64,.nil),(.int .i64,.nil),(.int .i64,.nil)]),(5,[(.bool,.nil),(.int .i64,.nil),(.int .i64,.nil),(.int .i64,.nil)])],[]⟩ 4000000 [((.exit 0),⟨[(0,.box 0 0),(4,.box 4 0),(5,.box 5 0)],[(0,[(.sl 5 [.int .u8],(.pin 0)),(.int .i64,.nil),(.int .i64,.nil)]),(4,[(.bool,.nil),(.int .i64,.nil),(.int .i64,.nil),(.int .i64,.nil)]),(5,[(.bool,.nil),(.int .i64,.nil),(.int .i64,.nil),(.int .i64,.nil)])],[]⟩)] 3 Mx Tryz.func154 1
def Anr:Av:=Au [g_2] (fun d=>(Ri d.1).val) fun r=>([rv g_5 r.1],[rv g_2 r.2])
def Rj:Fns:=[(68,(.box [3] true true),Cv),(42,(.box [3] true true),Eh),(113,.plain,Ao0),(121,.plain,Sz),(41,(.box [3] true true),Dx),(10,.plain,Ao3),(150,.plain,S2),(66,(.box [3] true true),Ai1),(151,.plain,Adz),(51,.plain,Kx),(152,.plain,Ai2),(135,.plain,Ape),(39,(.box [3] true true),Ji),(153,(.box [3] true true),Acb),(154,(.box [3] true true),Acd)]
theorem Ant:CfgOk Tryz.prog (Eg Rj):=G7 N6 Ku (show Ls Tryz.prog Rj from⟨Ct,Ei,Au7,Adp,Dt,Au9,Ads,Atk,Arj,Mw,Att,Avg,Kb,Akd,Ake,trivial⟩)
def Ad0:Sk:=⟨[(0,.box 0 0),(2,.box 2 0),(3,.box 3 0),(5,.v false [(.int .i64,.nil)]),(7,.v false [(.int .i64,.nil)])],[(0,[(.sl 5 [.int .u8],(.pin 0)),(.int .i64,.nil),(.int .i64,.nil)]),(2,[(.int .i64,.nil),(.sl 5 [.int .u8],(.own 16000000)),(.int .i64,.nil),(.int .i64,.nil),(.int .i64,.nil),(.sl 5 [.int .u8],(.own 16000001)),(.int .i64,.nil),(.int .i64,.nil),(.sl 5 [.int .u8],(.own 16000002)),(.sl 5 [.int .u8],(.own 16000003)),(.int .i64,.nil),(.sl 5 [.int .u8],(.own 16000004)),(.sl 5 [.int .u8],(.own 16000005)),(.int .i64,.nil),(.int .i64,.nil),(.sl 5 [.int .u8],(.own 16000006)),(.sl 5 [.int .u8],(.own 16000007)),(.int .i64,.nil),(.sl 5 [.int .u8],(.own 16000008)),(.int .i64,.nil),(.sl 5 [.int .u8],(.own 16000009)),(.int .i64,.nil),(.int .i64,.nil),(.sl 3 [.int .i64],(.own 16000010)),(.int .i64,.nil),(.sl 5 [.int .u8],(.own 16000011)),(.int .i64,.nil),(.int .i64,.nil),(.sl 3 [.int .i64],(.own 16000012)),(.bool,.nil),(.int .i64,.nil),(.sl 5 [.int .u8],(.own 16000013)),(.bool,.nil),(.int .i64,.nil),(.int .i64,.nil),(.int .i64,.nil),(.bool,.nil),(.int .i64,.nil),(.int .i64,.nil),(.int .i64,.nil),(.int .i64,.nil)]),(3,[(.int .i64,.nil),(.sl 5 [.int .u8],(.own 16000014)),(.int .i64,.nil),(.int .i64,.nil),(.int .i64,.nil),(.sl 5 [.int .u8],(.own 16000015)),(.int .i64,.nil),(.int .i64,.nil),(.sl 5 [.int .u8],(.own 16000016)),(.sl 5 [.int .u8],(.own 16000017)),(.int .i64,.nil),(.sl 5 [.int .u8],(.own 16000018)),(.sl 5 [.int .u8],(.own 16000019)),(.int .i64,.nil),(.int .i64,.nil),(.sl 5 [.int .u8],(.own 16000020)),(.sl 5 [.int .u8],(.own 16000021)),(.int .i64,.nil),(.sl 5 [.int .u8],(.own 16000022)),(.int .i64,.nil),(.sl 5 [.int .u8],(.own 16000023)),(.int .i64,.nil),(.int .i64,.nil),(.sl 3 [.int .i64],(.own 16000024)),(.int .i64,.nil),(.sl 5 [.int .u8],(.own 16000025)),(.int .i64,.nil),(.int .i64,.nil),(.sl 3 [.int .i64],(.own 16000026)),(.bool,.nil),(.int .i64,.nil),(.sl 5 [.int .u8],(.own 16000027)),(.bool,.nil),(.int .i64,.nil),(.int .i64,.nil),(.int .i64,.nil),(.bool,.nil),(.int .i64,.nil),(.int .i64,.nil),(.int .i64,.nil),(.int .i64,.nil)])],[16000000,16000001,16000002,16000003,16000004,16000005,16000006,16000007,16000008,16000009,16000010,16000011,16000012,16000013,16000014,16000015,16000016,16000017,16000018,16000019,16000020,16000021,16000022,16000023,16000024,16000025,16000026,16000027]⟩
def Ad1:List (Ex×Sk):=[((.exit 0),⟨[(0,.box 0 0),(2,.box 2 0),(3,.box 3 0),(5,.v false [(.int .i64,.nil)])],[(0,[(.sl 5 [.int .u8],(.pin 0)),(.int .i64,.nil),(.int .i64,.nil)]),(2,[(.int .i64,.nil),(.sl 5 [.int .u8],(.own 16000000)),(.int .i64,.nil),(.int .i64,.nil),(.int .i64,.nil),(.sl 5 [.int .u8],(.own 16000001)),(.int .i64,.nil),(.int .i64,.nil),(.sl 5 [.int .u8],(.own 16000002)),(.sl 5 [.int .u8],(.own 16000003)),(.int .i64,.nil),(.sl 5 [.int .u8],(.own 16000004)),(.sl 5 [.int .u8],(.own 16000005)),(.int .i64,.nil),(.int .i64,.nil),(.sl 5 [.int .u8],(.own 16000006)),(.sl 5 [.int .u8],(.own 16000007)),(.int .i64,.nil),(.sl 5 [.int .u8],(.own 16000008)),(.int .i64,.nil),(.sl 5 [.int .u8],(.own 16000009)),(.int .i64,.nil),(.int .i64,.nil),(.sl 3 [.int .i64],(.own 16000010)),(.int .i64,.nil),(.sl 5 [.int .u8],(.own 16000011)),(.int .i64,.nil),(.int .i64,.nil),(.sl 3 [.int .i64],(.own 16000012)),(.bool,.nil),(.int .i64,.nil),(.sl 5 [.int .u8],(.own 16000013)),(.bool,.nil),(.int .i64,.nil),(.int .i64,.nil),(.int .i64,.nil),(.bool,.nil),(.int .i64,.nil),(.int .i64,.nil),(.int .i64,.nil),(.int .i64,.nil)]),(3,[(.int .i64,.nil),(.sl 5 [.int .u8],(.own 16000014)),(.int .i64,.nil),(.int .i64,.nil),(.int .i64,.nil),(.sl 5 [.int .u8],(.own 16000015)),(.int .i64,.nil),(.int .i64,.nil),(.sl 5 [.int .u8],(.own 16000016)),(.sl 5 [.int .u8],(.own 16000017)),(.int .i64,.nil),(.sl 5 [.int .u8],(.own 16000018)),(.sl 5 [.int .u8],(.own 16000019)),(.int .i64,.nil),(.int .i64,.nil),(.sl 5 [.int .u8],(.own 16000020)),(.sl 5 [.int .u8],(.own 16000021)),(.int .i64,.nil),(.sl 5 [.int .u8],(.own 16000022)),(.int .i64,.nil),(.sl 5 [.int .u8],(.own 16000023)),(.int .i64,.nil),(.int .i64,.nil),(.sl 3 [.int .i64],(.own 16000024)),(.int .i64,.nil),(.sl 5 [.int .u8],(.own 16000025)),(.int .i64,.nil),(.int .i64,.nil),(.sl 3 [.int .i64],(.own 16000026)),(.bool,.nil),(.int .i64,.nil),(.sl 5 [.int .u8],(.own 16000027)),(.bool,.nil),(.int .i64,.nil),(.int .i64,.nil),(.int .i64,.nil),(.bool,.nil),(.int .i64,.nil),(.int .i64,.nil),(.int .i64,.nil),(.int .i64,.nil)])],[16000000,16000001,16000002,16000003,16000004,16000005,16000006,16000007,16000008,16000009,16000010,16000011,16000012,16000013,16000014,16000015,16000016,16000017,16000018,16000019,16000020,16000021,16000022,16000023,16000024,16000025,16000026,16000027]⟩)]
def Acf:Hn:=fun i st=>cond (Nat.beq i 15) (lam Ad0 16000000 Ad1 Et st) <| .fail
theorem Arl (cx:Cx) (hp:cx.pin.length≤1):E6 Tryz.prog cx Tryz.f85.ntmps Acf (Be Tryz.f85 0):=F4 Ant hp (Dw (by kernel_rfl:Bq (Be Tryz.f85 0)=[]) trivial) (by kernel_rfl) (fun d=>(by kernel_rfl:bod (Eg Rj) 1 Tryz.f85.ntmps Acf (Be Tryz.f85 0) Ad0 16000000 Ad1 d=Et d))
theorem Ayl:Fn Tryz.prog 85 (.box [3] true true) Anr:=Q7 Ant Tryz.func85 (by kernel_rfl) (by kernel_rfl) (fun cx b hp hb=>Dw (by kernel_rfl:Bq (Tryz.f85.body.getD .skip)=[Be Tryz.f85 0]) ⟨Arl cx hp,trivial⟩ b hb) (fun d=>(by kernel_rfl:Hv (Eg Rj) 1 Acf Tryz.f85 (.box [3] true true) (mkA [g_2] d)=(Ri d.1).run fun r=>some ([rv g_5 r.1],[rv g_2 r.2])))
def Arm:Av:=Au [g_2] (fun d=>(Af7 d.1).val) fun r=>([rv g_4 r.1],[rv g_2 r.2])
theorem A1l:Fn Tryz.prog 179 (.box [3] true true) Arm:=mkF [(39,(.box [3] true true),Ji),(68,(.box [3] true true),Cv),(122,(.box [3] true true),Wc),(113,.plain,Ao0)] ⟨Kb,Ct,Abo,Au7,trivial⟩ Tryz.func179 1
def Avi:Av:=Au [g_2] (fun d=>(Akf d.1).val) fun r=>([rv g_3 r.1],[rv g_2 r.2])
theorem A4d:Fn Tryz.prog 180 (.box [3] true true) Avi:=mkF [(41,(.box [3] true true),Dx)] ⟨Dt,trivial⟩ Tryz.func180 1
def Avj:Av:=Au [g_2] (fun d=>(Akg d.1).val) fun r=>([rv g_4 r.1],[rv g_2 r.2])
theorem A4e:Fn Tryz.prog 118 (.box [3] true true) Avj:=mkF [(179,(.box [3] true true),Arm),(68,(.box [3] true true),Cv),(180,(.box [3] true true),Avi),(41,(.box [3] true true),Dx)] ⟨A1l,Ct,A4d,Dt,trivial⟩ Tryz.func118 1
def Arn:Av:=Au [g_2] (fun d=>(Af8 d.1).val) fun r=>([rv g_7 r.1],[rv g_2 r.2])
theorem A1m:Fn Tryz.prog 136 (.box [3] true true) Arn:=mkF [(68,(.box [3] true true),Cv),(42,(.box [3] true true),Eh),(41,(.box [3] true true),Dx)] ⟨Ct,Ei,Dt,trivial⟩ Tryz.func136 1
def Avk:Av:=Au [g_2] (fun d=>(Akh d.1).val) fun r=>([rv g_7 r.1],[rv g_2 r.2])
theorem A4f:Fn Tryz.prog 69 (.box [3] true true) Avk:=mkF [(136,(.box [3] true true),Arn),(68,(.box [3] true true),Cv),(41,(.box [3] true true),Dx),(42,(.box [3] true true),Eh)] ⟨A1m,Ct,Dt,Ei,trivial⟩ Tryz.func69 1
def Aym:Av:=Au [g_2] (fun d=>(Apg d.1).val) fun r=>([rv g_9 r.1],[rv g_2 r.2])
theorem A6p:Fn Tryz.prog 218 (.box [3] true true) Aym:=mkF [(41,(.box [3] true true),Dx),(42,(.box [3] true true),Eh),(134,.plain,R4),(39,(.box [3] true true),Ji),(205,(.box [3] true true),Wj)] ⟨Dt,Ei,Wi,Kb,Aca,trivial⟩ Tryz.func218 1
def Avl:Av:=Au [g_2] (fun d=>(Aki d.1).val) fun r=>([rv g_8 r.1],[rv g_2 r.2])
theorem A4g:Fn Tryz.prog 219 (.box [3] true true) Avl:=mkF [(205,(.box [3] true true),Wj),(68,(.box [3] true true),Cv),(41,(.box [3] true true),Dx)] ⟨Aca,Ct,Dt,trivial⟩ Tryz.func219 1
def Avm:Av:=Au [g_2] (fun d=>(Akj d.1).val) fun r=>([rv g_9 r.1],[rv g_2 r.2])
theorem A4h:Fn Tryz.prog 181 (.box [3] true true) Avm:=mkF [(218,(.box [3] true true),Aym),(68,(.box [3] true true),Cv),(41,(.box [3] true true),Dx),(42,(.box [3] true true),Eh),(219,(.box [3] true true),Avl)] ⟨A6p,Ct,Dt,Ei,A4g,trivial⟩ Tryz.func181 1
def Aro:Av:=Au [g_2] (fun d=>(Af9 d.1).val) fun r=>([rv Fk r.1],[rv g_2 r.2])
theorem A1n:Fn Tryz.prog 119 (.box [3] true true) Aro:=mkF [(68,(.box [3] true true),Cv),(153,(.box [3] true true),Acb),(41,(.box [3] true true),Dx),(42,(.box [3] true true),Eh),(181,(.box [3] true true),Avm)] ⟨Ct,Akd,Dt,Ei,A4h,trivial⟩ Tryz.func119 1
def Arp:Av:=Au [g_2] (fun d=>(Aga d.1).val) fun r=>([rv Sy r.1],[rv g_2 r.2])
theorem A1o:Fn Tryz.prog 120 (.box [3] true true) Arp:=mkF [(41,(.box [3] true true),Dx),(154,(.box [3] true true),Acd),(68,(.box [3] true true),Cv)] ⟨Dt,Ake,Ct,trivial⟩ Tryz.func120 1
def Arq:Av:=Au [g_2] (fun d=>(Agb d.1).val) fun r=>([rv g_5 r.1],[rv g_2 r.2])
theorem A1p:Fn Tryz.prog 38 (.box [3] true true) Arq:=mkF [(85,(.box [3] true true),Anr),(68,(.box [3] true true),Cv),(41,(.box [3] true true),Dx),(42,(.box [3] true true),Eh),(118,(.box [3] true true),Avj),(69,(.box [3] true true),Avk),(119,(.box [3] true true),Aro),(120,(.box [3] true true),Arp)] ⟨Ayl,Ct,Dt,Ei,A4e,A4f,A1n,A1o,trivial⟩ Tryz.func38 1
def Anu:Av:=Au [g_5] (fun d=>(Acg d.1).val) fun r=>([rv g_5 r],[])
theorem Ayn:Fn Tryz.prog 40 .plain Anu:=mkF [(121,.plain,Sz)] ⟨Adp,trivial⟩ Tryz.func40 0
def Akk:Av:=Au [g_0] (fun d=>(Xn d.1).val) fun r=>([rv g_5 r.1,rv g_3 r.2.1,rv g_0 r.2.2],[])
theorem Aw6:Fn Tryz.prog 8 .plain Akk:=mkF [(37,.ret,Au6),(38,(.box [3] true true),Arq),(39,(.box [3] true true),Ji),(40,.plain,Anu),(41,(.box [3] true true),Dx),(42,(.box [3] true true),Eh)] ⟨A36,A1p,Kb,Ayn,Dt,Ei,trivial⟩ Tryz.func8 0
def Do:Av:=Au [g_0] (fun d=>(Akl d.1).val) fun r=>([rv g_0 r],[])
theorem Df:Fn Tryz.prog 46 .plain Do:=mkF [] trivial Tryz.func46 0
def S9:Av:=Au [g_7] (fun d=>(Ta d.1).val) fun r=>([rv g_7 r],[])
theorem Ad2:Fn Tryz.prog 64 .plain S9:=mkF [(46,.plain,Do)] ⟨Df,trivial⟩ Tryz.func64 0
def Anv:Av:=Au [g_8] (fun d=>(Ach d.1).val) fun r=>([rv g_8 r],[])
theorem Ayo:Fn Tryz.prog 220 .plain Anv:=mkF [] trivial Tryz.func220 0
def Agc:Av:=Au [g_9] (fun d=>(Agd d.1).val) fun r=>([rv g_9 r],[])
theorem Anw:Fn Tryz.prog 182 .plain Agc:=mkF [(46,.plain,Do),(220,.plain,Anv)] ⟨Df,Ayo,trivial⟩ Tryz.func182 0
def K2:Av:=Au [Fk] (fun d=>(Xo d.1).val) fun r=>([rv Fk r],[])
theorem My:Fn Tryz.prog 123 .plain K2:=mkF [(46,.plain,Do),(182,.plain,Agc)] ⟨Df,Anw,trivial⟩ Tryz.func123 0
def Lx:Av:=Au [g_5] (fun d=>(Qa d.1).val) fun r=>([rv g_5 r],[])
theorem Oi:Fn Tryz.prog 43 .plain Lx:=mkF [(46,.plain,Do),(64,.plain,S9),(123,.plain,K2)] ⟨Df,Ad2,My,trivial⟩ Tryz.func43 0
def B5:Av:=Au [g_3,g_3,g_3] (fun d=>(Age d.1 d.2.1 d.2.2.1).val) fun r=>([rv g_1 r],[])
theorem By:Fn Tryz.prog 44 .plain B5:=mkF [] trivial Tryz.func44 0
def Avn:Av:=Au [g_0] (fun d=>(Akm d.1).val) fun r=>([rv g_1 r],[])
theorem A4i:Fn Tryz.prog 54 .plain Avn:=mkF [(44,.plain,B5)] ⟨By,trivial⟩ Tryz.func54 0
def Arr:Av:=Au [g_4] (fun d=>(Agf d.1).val) fun r=>([rv g_1 r],[])
theorem A1q:Fn Tryz.prog 55 .plain Arr:=mkF [(44,.plain,B5)] ⟨By,trivial⟩ Tryz.func55 0
def Mz:Av:=Au [g_0,g_0] (fun d=>(Ai3 d.1 d.2.1).val) fun r=>([rv g_1 r],[])
theorem Qb:Fn Tryz.prog 72 .plain Mz:=mkF [] trivial Tryz.func72 0
def Tb:Av:=Au [g_7,g_7] (fun d=>(Tc d.1 d.2.1).val) fun r=>([rv g_1 r],[])
theorem Ad3:Fn Tryz.prog 56 .plain Tb:=mkF [(72,.plain,Mz)] ⟨Qb,trivial⟩ Tryz.func56 0
def Akn:Av:=Au [g_6,g_6] (fun d=>(Xp d.1 d.2.1).val) fun r=>([rv g_1 r],[])
theorem Aw7:Fn Tryz.prog 186 .plain Akn:=D7 [] trivial ⟨[(1,.v false [(.sl 3 [.int .i64],.ro)]),(12,.v false [(.sl 3 [.int .i64],.ro)]),(13,.v false [(.int .i64,.nil)]),(14,.v false [(.int .i64,.nil)])],[],[]⟩ 5000000 [(.ret,⟨[(4,.v false [(.bool,.nil)])],[],[]⟩),((.exit 0),⟨[],[],[]⟩)] 4 Ad4 Tryz.func186 0
def Agg:Av:=Au [g_9,g_9] (fun d=>(Agh d.1 d.2.1).val) fun r=>([rv g_1 r],[])
theorem Anx:Fn Tryz.prog 127 .plain Agg:=mkF [(72,.plain,Mz),(186,.plain,Akn)] ⟨Qb,Aw7,trivial⟩ Tryz.func127 0
def Ad5:Av:=Au [Fk] (fun d=>(Qc d.1).val) fun r=>([rv g_1 r],[])
theorem Ars:Fn Tryz.prog 57 .plain Ad5:=mkF [(127,.plain,Agg)] ⟨Anx,trivial⟩ Tryz.func57 0
def Ic:Av:=Au [g_0] (fun d=>(Any d.1).val) fun r=>([rv g_1 r],[])
theorem Iq:Fn Tryz.prog 45 .plain Ic:=mkF [] trivial Tryz.func45 0
def Aci:Av:=Au [Sy] (fun d=>(Acj d.1).val) fun r=>([rv g_1 r],[])
theorem Ako:Fn Tryz.prog 58 .plain Aci:=mkF [(44,.plain,B5)] ⟨By,trivial⟩ Tryz.func58 0
def Wk:Av:=Au [g_3] (fun d=>(Agi d.1).val) fun r=>([rv g_1 r],[])
theorem Ack:Fn Tryz.prog 74 .plain Wk:=mkF [(44,.plain,B5)] ⟨By,trivial⟩ Tryz.func74 0
def Art:Av:=Au [g_3,g_3] (fun d=>(Agj d.1 d.2.1).val) fun r=>([rv g_1 r],[])
theorem A1r:Fn Tryz.prog 138 .plain Art:=mkF [] trivial Tryz.func138 0
def Rk:Av:=Au [g_7] (fun d=>(Acl d.1).val) fun r=>([rv g_1 r],[])
theorem Xq:Fn Tryz.prog 71 .plain Rk:=mkF [(44,.plain,B5),(45,.plain,Ic),(74,.plain,Wk),(138,.plain,Art),(56,.plain,Tb)] ⟨By,Iq,Ack,A1r,Ad3,trivial⟩ Tryz.func71 0
def Oj:Av:=Au [g_3] (fun d=>(Agk d.1).val) fun r=>([rv g_1 r],[])
theorem Rl:Fn Tryz.prog 128 .plain Oj:=mkF [] trivial Tryz.func128 0
def Ok:Av:=Au [g_6,g_3] (fun d=>(Xr d.1 d.2.1).val) fun r=>([rv g_1 r],[])
theorem Td:Fn Tryz.prog 223 .plain Ok:=D7 [(44,.plain,B5)] ⟨By,trivial⟩ ⟨[(0,.v false [(.sl 3 [.int .i64],.ro)]),(1,.v false [(.int .i64,.nil)]),(7,.v false [(.sl 3 [.int .i64],.ro)]),(8,.v false [(.int .i64,.nil)]),(9,.v false [(.int .i64,.nil)])],[],[]⟩ 3000000 [(.ret,⟨[(4,.v false [(.bool,.nil)])],[],[]⟩),((.exit 0),⟨[(0,.v false [(.sl 3 [.int .i64],.ro)]),(1,.v false [(.int .i64,.nil)])],[],[]⟩)] 2 Ir Tryz.func223 0
def Aru:Av:=Au [g_8,g_3] (fun d=>(Agl d.1 d.2.1).val) fun r=>([rv g_1 r],[])
theorem A1s:Fn Tryz.prog 224 .plain Aru:=mkF [] trivial Tryz.func224 0
def Avo:Av:=Au [g_8] (fun d=>(Akp d.1).val) fun r=>([rv g_1 r],[])
theorem A4j:Fn Tryz.prog 187 .plain Avo:=D7 [(44,.plain,B5),(223,.plain,Ok),(224,.plain,Aru)] ⟨By,Td,A1s,trivial⟩ ⟨[(1,.box 1 0),(3,.v false [(.int .i64,.nil)])],[(1,[(.int .i64,.nil),(.sl 3 [.int .i64],.ro)])],[]⟩ 5000000 [(.ret,⟨[(2,.v false [(.bool,.nil)])],[],[]⟩),((.exit 0),⟨[(1,.box 1 0)],[(1,[(.int .i64,.nil),(.sl 3 [.int .i64],.ro)])],[]⟩)] 4 Kc Tryz.func187 0
def Agm:Av:=Au [g_9] (fun d=>(Aph d.1).val) fun r=>([rv g_1 r],[])
theorem Akq:Fn Tryz.prog 129 .plain Agm:=mkF [(44,.plain,B5),(187,.plain,Avo)] ⟨By,A4j,trivial⟩ Tryz.func129 0
def Avp:Av:=Au [Fk] (fun d=>(Akr d.1).val) fun r=>([rv g_1 r],[])
theorem A4k:Fn Tryz.prog 130 .plain Avp:=mkF [(127,.plain,Agg),(129,.plain,Agm),(44,.plain,B5)] ⟨Anx,Akq,By,trivial⟩ Tryz.func130 0
def Ly:Av:=Au [Fk] (fun d=>(Agn d.1).val) fun r=>([rv g_1 r],[])
theorem Mh:Fn Tryz.prog 60 .plain Ly:=mkF [(128,.plain,Oj),(45,.plain,Ic),(129,.plain,Agm),(130,.plain,Avp)] ⟨Rl,Iq,Akq,A4k,trivial⟩ Tryz.func60 0
def Aks:Av:=Au [g_5] (fun d=>(Xs d.1).val) fun r=>([rv g_1 r],[])
theorem Aw8:Fn Tryz.prog 59 .plain Aks:=mkF [(45,.plain,Ic),(71,.plain,Rk),(72,.plain,Mz),(60,.plain,Ly)] ⟨Iq,Xq,Qb,Mh,trivial⟩ Tryz.func59 0
def Ol:Av:=Au [g_5] (fun d=>(Xt d.1).val) fun r=>([rv g_1 r],[])
theorem Te:Fn Tryz.prog 12 .plain Ol:=mkF [(44,.plain,B5),(54,.plain,Avn),(55,.plain,Arr),(56,.plain,Tb),(57,.plain,Ad5),(45,.plain,Ic),(58,.plain,Aci),(59,.plain,Aks),(60,.plain,Ly)] ⟨By,A4i,A1q,Ad3,Ars,Iq,Ako,Aw8,Mh,trivial⟩ Tryz.func12 0
def Xu:Av:=Au [g_3] (fun d=>(Xv d.1).val) fun r=>([rv Sy r],[])
theorem Ai4:Fn Tryz.prog 47 .plain Xu:=mkF [(44,.plain,B5)] ⟨By,trivial⟩ Tryz.func47 0
def Ago:Av:=Au [g_5] (fun d=>(Agp d.1).val) fun r=>([rv g_7 r],[])
theorem Anz:Fn Tryz.prog 48 .plain Ago:=mkF [(46,.plain,Do)] ⟨Df,trivial⟩ Tryz.func48 0
def Ayp:Av:=Au [g_5,g_3,g_0] (fun d=>(Api d.1 d.2.1 d.2.2.1).val) fun r=>([rv g_5 r.1,rv Ax3 r.2.1,rv Ax4 r.2.2.1,rv g_3 r.2.2.2],[])
theorem A6q:Fn Tryz.prog 9 .plain Ayp:=mkF [(43,.plain,Lx),(12,.plain,Ol),(44,.plain,B5),(45,.plain,Ic),(46,.plain,Do),(47,.plain,Xu),(48,.plain,Ago)] ⟨Oi,Te,By,Iq,Df,Ai4,Anz,trivial⟩ Tryz.func9 0
def Xw:Av:=Au [g_0,g_0] (fun d=>(Apj d.1 d.2.1).val) fun r=>([rv g_1 r],[])
theorem Aar:Fn Tryz.prog 35 .plain Xw:=mkF [] trivial Tryz.func35 0
def Tf:Av:=Au [g_7,g_7] (fun d=>(Tg d.1 d.2.1).val) fun r=>([rv g_1 r],[])
theorem Ad6:Fn Tryz.prog 15 .plain Tf:=mkF [(35,.plain,Xw)] ⟨Aar,trivial⟩ Tryz.func15 0
def Akt:Av:=Au [g_6,g_6] (fun d=>(Xx d.1 d.2.1).val) fun r=>([rv g_1 r],[])
theorem Aw9:Fn Tryz.prog 222 .plain Akt:=D7 [] trivial ⟨[(0,.v false [(.sl 3 [.int .i64],.ro)]),(1,.v false [(.sl 3 [.int .i64],.ro)]),(5,.v false [(.int .i64,.nil)])],[],[]⟩ 5000000 [(.ret,⟨[(4,.v false [(.bool,.nil)])],[],[]⟩),((.exit 0),⟨[],[],[]⟩)] 4 Gu Tryz.func222 0
def An0:Av:=Au [g_8,g_8] (fun d=>(Acm d.1 d.2.1).val) fun r=>([rv g_1 r],[])
theorem Ayq:Fn Tryz.prog 185 .plain An0:=mkF [(222,.plain,Akt)] ⟨Aw9,trivial⟩ Tryz.func185 0
def Arv:Av:=Au [g_9,g_9] (fun d=>(Agq d.1 d.2.1).val) fun r=>([rv g_1 r],[])
theorem A1t:Fn Tryz.prog 126 .plain Arv:=mkF [(35,.plain,Xw),(185,.plain,An0)] ⟨Aar,Ayq,trivial⟩ Tryz.func126 0
def Aku:Av:=Au [Fk,Fk] (fun d=>(Xy d.1 d.2.1).val) fun r=>([rv g_1 r],[])
theorem Axa:Fn Tryz.prog 53 .plain Aku:=mkF [(35,.plain,Xw),(126,.plain,Arv)] ⟨Aar,A1t,trivial⟩ Tryz.func53 0
def Ad7:Av:=Au [g_5,g_5] (fun d=>(Qd d.1 d.2.1).val) fun r=>([rv g_1 r],[])
theorem Arw:Fn Tryz.prog 11 .plain Ad7:=mkF [(35,.plain,Xw),(15,.plain,Tf),(53,.plain,Aku)] ⟨Aar,Ad6,Axa,trivial⟩ Tryz.func11 0
def Apk:Av:=Au [g_5] (fun d=>(Apl d.1).val) fun r=>([rv g_5 r],[])
theorem Avq:Fn Tryz.prog 63 .plain Apk:=mkF [(46,.plain,Do)] ⟨Df,trivial⟩ Tryz.func63 0
def Avr:Av:=Au [g_3,g_3,g_0] (fun d=>(Avs d.1 d.2.1 d.2.2.1).val) fun r=>([rv Ati r],[])
theorem A4l:Fn Tryz.prog 90 .plain Avr:=mkF [(46,.plain,Do)] ⟨Df,trivial⟩ Tryz.func90 0
def Akv:Av:=Au [Fk,g_3] (fun d=>(Akw d.1 d.2.1).val) fun r=>([rv Fk r],[])
theorem Axb:Fn Tryz.prog 131 .plain Akv:=mkF [(123,.plain,K2),(60,.plain,Ly),(44,.plain,B5)] ⟨My,Mh,By,trivial⟩ Tryz.func131 0
def Ad8:Av:=Au [Sy,g_3] (fun d=>(Qe d.1 d.2.1).val) fun r=>([rv g_1 r],[])
theorem Arx:Fn Tryz.prog 132 .plain Ad8:=mkF [(58,.plain,Aci),(44,.plain,B5)] ⟨Ako,By,trivial⟩ Tryz.func132 0
def Th:Av:=Au [Sy,g_3] (fun d=>(Ti d.1 d.2.1).val) fun r=>([rv Sy r.1,rv g_3 r.2],[])
theorem Ad9:Fn Tryz.prog 62 .plain Th:=mkF [(132,.plain,Ad8)] ⟨Arx,trivial⟩ Tryz.func62 0
def Qf:Av:=Au [g_0,g_3,g_3] (fun d=>(Ayr d.1 d.2.1 d.2.2.1).val) fun r=>([rv g_0 r],[])
theorem R6:Fn Tryz.prog 196 .plain Qf:=D7 [] trivial ⟨[(1,.v false [(.int .i64,.nil)]),(7,.v false [(.sl 5 [.int .u8],(.own 6000000))]),(8,.v false [(.int .i64,.nil)])],[],[6000000]⟩ 6000000 [((.exit 0),⟨[(7,.v false [(.sl 5 [.int .u8],(.own 6000000))])],[],[6000000]⟩)] 5 Ary Tryz.func196 0
def Ai5:Av:=Au [g_3] (fun d=>(Ai6 d.1).val) fun r=>([rv g_0 r],[])
theorem Atu:Fn Tryz.prog 157 .plain Ai5:=mkF [(44,.plain,B5),(196,.plain,Qf)] ⟨By,R6,trivial⟩ Tryz.func157 0
def Jj:Av:=Au [Bd6] (fun d=>(Agr d.1).val) fun r=>([rv g_0 r],[])
theorem Kd:Fn Tryz.prog 165 .plain Jj:=D7 [] trivial ⟨[(3,.v false [(.sl 5 [.int .u8],(.own 4000000))]),(7,.v false [(.sl 22 [.sl 5 [.int .u8]],.ro)]),(8,.v false [(.int .i64,.nil)]),(9,.v false [(.int .i64,.nil)])],[],[4000000]⟩ 4000000 [((.exit 0),⟨[(3,.v false [(.sl 5 [.int .u8],(.own 4000000))])],[],[4000000]⟩)] 3 Is Tryz.func165 0
def Ags:Av:=Au [g_3,g_0,g_3,g_3] (fun d=>(Agt d.1 d.2.1 d.2.2.1 d.2.2.2.1).val) fun r=>([rv g_0 r],[])
theorem An1:Fn Tryz.prog 166 .plain Ags:=mkF [(128,.plain,Oj),(45,.plain,Ic),(44,.plain,B5),(196,.plain,Qf),(165,.plain,Jj)] ⟨Rl,Iq,By,R6,Kd,trivial⟩ Tryz.func166 0
def Avt:Av:=Au [] (fun d=>(Avu).val) fun r=>([rv g_6 r],[])
theorem A4m:Fn Tryz.prog 268 .plain Avt:=mkF [] trivial Tryz.func268 0
def An2:Av:=Au [] (fun d=>(An3).val) fun r=>([rv Ax5 r],[])
theorem Ays:Fn Tryz.prog 258 .plain An2:=mkF [(268,.plain,Avt)] ⟨A4m,trivial⟩ Tryz.func258 0
def Agu:Av:=Au [Ax5] (fun d=>(Agv d.1).val) fun r=>([rv g_1 r],[])
theorem An4:Fn Tryz.prog 264 .plain Agu:=mkF [(223,.plain,Ok),(44,.plain,B5)] ⟨Td,By,trivial⟩ Tryz.func264 0
def A2w:Av:=Au [g_0,g_3,g_3] (fun d=>(Atv d.1 d.2.1 d.2.2.1).val) fun r=>([rv g_0 r.1,rv g_1 r.2],[])
theorem A89:Fn Tryz.prog 276 .plain A2w:=mkF [] trivial Tryz.func276 0
def Ayt:Av:=Au [g_0,g_3,g_3] (fun d=>(Apm d.1 d.2.1 d.2.2.1).val) fun r=>([rv g_3 r.1,rv g_3 r.2.1,rv g_1 r.2.2],[])
theorem A6r:Fn Tryz.prog 275 .plain Ayt:=D7 [(276,.plain,A2w)] ⟨A89,trivial⟩ ⟨[(1,.v false [(.int .i64,.nil)]),(2,.v false [(.int .i64,.nil)]),(11,.v false [(.int .i64,.nil)]),(29,.v false [(.sl 5 [.int .u8],(.own 9000000))]),(30,.v false [(.int .i64,.nil)]),(31,.v false [(.int .i64,.nil)])],[],[9000000]⟩ 9000000 [((.exit 0),⟨[(1,.v false [(.int .i64,.nil)]),(2,.v false [(.int .i64,.nil)]),(11,.v false [(.int .i64,.nil)])],[],[]⟩)] 8 Lz Tryz.func275 0
def Atw:Av:=Au [g_3,g_3] (fun d=>(Atx d.1 d.2.1).val) fun r=>([rv g_3 r],[])
theorem Ayu:Fn Tryz.prog 272 .plain Atw:=mkF [] trivial Tryz.func272 0
def Akx:Av:=Au [g_0] (fun d=>(Om d.1).val) fun r=>([rv g_6 r],[])
def K3:Fns:=[(275,.plain,Ayt),(272,.plain,Atw)]
theorem Xz:CfgOk Tryz.prog (Eg K3):=G7 N6 Ku (show Ls Tryz.prog K3 from⟨A6r,Ayu,trivial⟩)
def Aea:Sk:=⟨[(3,.v false [(.sl 3 [.int .i64],(.own 10000000))]),(5,.v false [(.int .i64,.nil)])],[],[10000000]⟩
def Aeb:List (Ex×Sk):=[((.exit 2),⟨[(3,.v false [(.sl 3 [.int .i64],(.own 10000000))])],[],[10000000]⟩)]
def Aec:Sk:=⟨[(0,.v false [(.sl 5 [.int .u8],.ro)]),(3,.v false [(.sl 3 [.int .i64],(.own 6000000))]),(4,.v false [(.int .i64,.nil)])],[],[6000000]⟩
def Aed:List (Ex×Sk):=[((.exit 0),⟨[(3,.v false [(.sl 3 [.int .i64],(.own 6000000))])],[],[6000000]⟩)]
def K4:Hn:=fun i st=>cond (Nat.beq i 5) (lam Aec 6000000 Aed Gv st) <| cond (Nat.beq i 9) (lam Aea 10000000 Aeb Gw st) <| .fail
theorem Arz (cx:Cx) (hp:cx.pin.length≤0):E6 Tryz.prog cx Tryz.f271.ntmps K4 (Be Tryz.f271 0):=F4 Xz hp (Dw (by kernel_rfl:Bq (Be Tryz.f271 0)=[]) trivial) (by kernel_rfl) (fun d=>(by kernel_rfl:bod (Eg K3) 0 Tryz.f271.ntmps K4 (Be Tryz.f271 0) Aec 6000000 Aed d=Gv d))
theorem Ar0 (cx:Cx) (hp:cx.pin.length≤0):E6 Tryz.prog cx Tryz.f271.ntmps K4 (Be Tryz.f271 1):=F4 Xz hp (Dw (by kernel_rfl:Bq (Be Tryz.f271 1)=[]) trivial) (by kernel_rfl) (fun d=>(by kernel_rfl:bod (Eg K3) 0 Tryz.f271.ntmps K4 (Be Tryz.f271 1) Aea 10000000 Aeb d=Gw d))
theorem Axc:Fn Tryz.prog 271 .plain Akx:=Q7 Xz Tryz.func271 (by kernel_rfl) (by kernel_rfl) (fun cx b hp hb=>Dw (by kernel_rfl:Bq (Tryz.f271.body.getD .skip)=[Be Tryz.f271 0,Be Tryz.f271 1]) ⟨Arz cx hp,Ar0 cx hp,trivial⟩ b hb) (fun d=>(by kernel_rfl:Hv (Eg K3) 0 K4 Tryz.f271 .plain (mkA [g_0] d)=(Om d.1).run fun r=>some ([rv g_6 r],[])))
theorem A6s (n:Int) (w:World) (h0:0≤n) (h1:n≤63):
  Calls Tryz.prog 273 #[.int .i64 n] w (Ret w (.int .i64 (Mi[n.toNat]?.getD 0))):=by
 have hx: ∃x,Mi[n.toNat]? =some x:=⟨_,List.getElem?_eq_getElem (by simp[Mi];omega)⟩
 obtain⟨x,hx⟩:=hx
 have hcell:(Aky 225 w Ar1).cell? ⟨w.heap.size,n.toNat,none⟩=some (.int .i64 x):=by
  rw[A1u];unfold Ar1;rw[List.getElem?_toArray,List.getElem?_map,hx];rfl
 rw[hx]
 go_enter Tryz.func273,Tryz.ntmps273
 go_wp2_with (first|(refine Axd rfl 225 _ rfl Ar1 (by kernel_rfl) ?_)|(refine Axe rfl 225 rfl _ _ Ar2 (by kernel_rfl) (by kernel_rfl) (by kernel_rfl) ?_)|(refine Axf rfl 225 _ _ rfl Ar1 rfl rfl (by kernel_rfl) (by kernel_rfl) (by kernel_rfl) ?_))
 go_ret
 refine Ret.mk rfl ?_
 rw[A6t]
 exact(Cc.refl _).alloc _
theorem A6u (n:Int) (w:World) (h0: ¬(0≤n∧n≤63)):
  Calls Tryz.prog 273 #[.int .i64 n] w (Ret w (.int .i64 0)):=by
 by_cases h:n<0
 ·go_enter Tryz.func273,Tryz.ntmps273
  go_wp2_with fail
  go_ret
  exact Ret.mk rfl (Cc.refl _)
 ·have h2:63<n:=by omega
  go_enter Tryz.func273,Tryz.ntmps273
  go_wp2_with fail
  go_ret
  exact Ret.mk rfl (Cc.refl _)
def Axg:List (Bool×List Sh):=[(false,[.int .i64])]
def Axh (r:YI):List RV×List RV:=([rv (false,[.int .i64]) r],[])
def Ai7:Av:=Au Axg (fun d=>(Ai8 d.1).val) Axh
theorem Aty:Fn Tryz.prog 273 .plain Ai7:=by
 refine⟨?_,Tryz.f273,Tryz.func273,by kernel_rfl,by kernel_rfl⟩
 intro rs res vals w G hv hG hr
 obtain⟨d,x,rfl,h1,h2⟩:=Ayv hv
 obtain⟨⟨n,_⟩,_⟩:=d
 cases h1
 subst h2
 match vals,hr with
 |[v],hr=>
  have e:v= .int .i64 n:=hr.1.1.1
  subst e
  refine(?_:Calls Tryz.prog 273 #[.int .i64 n] w (Ret w (.int .i64 (R7 n)))).mono fun e w' h=>A6v (A6w n) h
  unfold R7
  by_cases h:0≤n∧n≤63
  ·rw[if_pos h];exact A6s n w h.1 h.2
  ·rw[if_neg h];exact A6u n w h

def Avv:Av:=Au [g_3,g_3] (fun d=>(Avw d.1 d.2.1).val) fun r=>([rv g_3 r],[])
theorem A4n:Fn Tryz.prog 274 .plain Avv:=mkF [] trivial Tryz.func274 0
def Akz:Av:=Au [g_6,g_0] (fun d=>(On d.1 d.2.1).val) fun r=>([rv g_6 r],[])
def K5:Fns:=[(223,.plain,Ok),(271,.plain,Akx),(272,.plain,Atw),(273,.plain,Ai7),(274,.plain,Avv)]
theorem X0:CfgOk Tryz.prog (Eg K5):=G7 N6 Ku (show Ls Tryz.prog K5 from⟨Td,Axc,Ayu,Aty,A4n,trivial⟩)
def Aas:Sk:=⟨[(0,.v false [(.sl 3 [.int .i64],.ro)]),(5,.v false [(.sl 3 [.int .i64],(.own 17000000))]),(133,.v false [(.sl 3 [.int .i64],(.own 17000001))]),(134,.v false [(.int .i64,.nil)]),(135,.v false [(.int .i64,.nil)])],[],[17000000,17000001]⟩
def Aat:List (Ex×Sk):=[((.exit 2),⟨[(5,.v false [(.sl 3 [.int .i64],(.own 17000000))])],[],[17000000]⟩)]
def Aee:Sk:=⟨[(0,.v false [(.sl 3 [.int .i64],.ro)]),(5,.v false [(.sl 3 [.int .i64],(.own 8000000))]),(6,.v false [(.sl 3 [.int .i64],(.own 8000001))]),(7,.v false [(.int .i64,.nil)]),(8,.v false [(.int .i64,.nil)]),(9,.v false [(.int .i64,.nil)]),(10,.v false [(.int .i64,.nil)]),(11,.v false [(.int .i64,.nil)]),(12,.v false [(.int .i64,.nil)]),(13,.v false [(.int .i64,.nil)]),(14,.v false [(.int .i64,.nil)]),(15,.v false [(.int .i64,.nil)])],[],[8000000,8000001]⟩
def Aef:List (Ex×Sk):=[((.exit 0),⟨[(0,.v false [(.sl 3 [.int .i64],.ro)]),(5,.v false [(.sl 3 [.int .i64],(.own 8000000))]),(7,.v false [(.int .i64,.nil)]),(8,.v false [(.int .i64,.nil)]),(9,.v false [(.int .i64,.nil)]),(10,.v false [(.int .i64,.nil)]),(11,.v false [(.int .i64,.nil)]),(12,.v false [(.int .i64,.nil)]),(13,.v false [(.int .i64,.nil)]),(14,.v false [(.int .i64,.nil)])],[],[8000000]⟩)]
def K6:Hn:=fun i st=>cond (Nat.beq i 7) (lam Aee 8000000 Aef Fm st) <| cond (Nat.beq i 16) (lam Aas 17000000 Aat E8 st) <| .fail
theorem Ar3 (cx:Cx) (hp:cx.pin.length≤0):E6 Tryz.prog cx Tryz.f270.ntmps K6 (Be Tryz.f270 0):=F4 X0 hp (Dw (by kernel_rfl:Bq (Be Tryz.f270 0)=[]) trivial) (by kernel_rfl) (fun d=>(by kernel_rfl:bod (Eg K5) 0 Tryz.f270.ntmps K6 (Be Tryz.f270 0) Aee 8000000 Aef d=Fm d))
theorem Apn (cx:Cx) (hp:cx.pin.length≤0):E6 Tryz.prog cx Tryz.f270.ntmps K6 (Be Tryz.f270 1):=F4 X0 hp (Dw (by kernel_rfl:Bq (Be Tryz.f270 1)=[]) trivial) (by kernel_rfl) (fun d=>(by kernel_rfl:bod (Eg K5) 0 Tryz.f270.ntmps K6 (Be Tryz.f270 1) Aas 17000000 Aat d=E8 d))
theorem Axi:Fn Tryz.prog 270 .plain Akz:=Q7 X0 Tryz.func270 (by kernel_rfl) (by kernel_rfl) (fun cx b hp hb=>Dw (by kernel_rfl:Bq (Tryz.f270.body.getD .skip)=[Be Tryz.f270 0,Be Tryz.f270 1]) ⟨Ar3 cx hp,Apn cx hp,trivial⟩ b hb) (fun d=>(by kernel_rfl:Hv (Eg K5) 0 K6 Tryz.f270 .plain (mkA [g_6,g_0] d)=(On d.1 d.2.1).run fun r=>some ([rv g_6 r],[])))
def Oo:Av:=Au [g_6,g_0] (fun d=>(Oq d.1 d.2.1).val) fun r=>([rv g_6 r.1,rv g_0 r.2],[])
theorem X1:Fn Tryz.prog 265 .view Oo:=D7 [(270,.plain,Akz)] ⟨Axi,trivial⟩ ⟨[(0,.v false [(.sl 3 [.int .i64],.rd)]),(1,.v false [(.sl 5 [.int .u8],.ro)])],[],[]⟩ 2000000 [((.exit 0),⟨[(0,.v false [(.sl 3 [.int .i64],.rd)]),(1,.v false [(.sl 5 [.int .u8],.ro)])],[],[]⟩)] 1 Eb Tryz.func265 0
def An5:Av:=Au [Ax5,g_0] (fun d=>(Acn d.1 d.2.1).val) fun r=>([rv Ax5 r],[])
theorem Ayw:Fn Tryz.prog 257 .plain An5:=mkF [(264,.plain,Agu),(46,.plain,Do),(165,.plain,Jj),(265,.view,Oo)] ⟨An4,Df,Kd,X1,trivial⟩ Tryz.func257 0
def A2x:Av:=Au [g_3] (fun d=>(Atz d.1).val) fun r=>([rv g_0 r],[])
theorem A9a:Fn Tryz.prog 266 .plain A2x:=D7 [(44,.plain,B5),(196,.plain,Qf)] ⟨By,R6,trivial⟩ ⟨[(0,.v false [(.int .i64,.nil)]),(3,.v false [(.sl 5 [.int .u8],(.own 5000000))])],[],[5000000]⟩ 5000000 [((.exit 0),⟨[(0,.v false [(.int .i64,.nil)]),(3,.v false [(.sl 5 [.int .u8],(.own 5000000))])],[],[5000000]⟩)] 4 K7 Tryz.func266 0
def Ai9:Av:=Au [g_6] (fun d=>(Tj d.1).val) fun r=>([rv g_0 r],[])
theorem At0:Fn Tryz.prog 267 .plain Ai9:=D7 [(196,.plain,Qf)] ⟨R6,trivial⟩ ⟨[(3,.v false [(.sl 5 [.int .u8],(.own 4000000))]),(7,.v false [(.sl 3 [.int .i64],.ro)]),(8,.v false [(.int .i64,.nil)]),(9,.v false [(.int .i64,.nil)])],[],[4000000]⟩ 4000000 [((.exit 0),⟨[(3,.v false [(.sl 5 [.int .u8],(.own 4000000))])],[],[4000000]⟩)] 3 F6 Tryz.func267 0
def An6:Av:=Au [Ax5] (fun d=>(Aco d.1).val) fun r=>([rv g_0 r],[])
theorem Ayx:Fn Tryz.prog 256 .plain An6:=mkF [(264,.plain,Agu),(266,.plain,A2x),(165,.plain,Jj),(265,.view,Oo),(267,.plain,Ai9)] ⟨An4,A9a,Kd,X1,At0,trivial⟩ Tryz.func256 0
def At1:Av:=Au [g_0] (fun d=>(At2 d.1).val) fun r=>([rv g_0 r],[])
theorem Ayy:Fn Tryz.prog 248 .plain At1:=mkF [(258,.plain,An2),(257,.plain,An5),(256,.plain,An6)] ⟨Ays,Ayw,Ayx,trivial⟩ Tryz.func248 0
def Ak0:Av:=Au [g_0] (fun d=>(X3 d.1).val) fun r=>([rv g_0 r],[])
theorem Axj:Fn Tryz.prog 247 .plain Ak0:=D7 [(46,.plain,Do),(248,.plain,At1)] ⟨Df,Ayy,trivial⟩ ⟨[(3,.v false [(.sl 5 [.int .u8],(.own 7000000))])],[],[7000000]⟩ 7000000 [((.exit 0),⟨[(3,.v false [(.sl 5 [.int .u8],(.own 7000000))])],[],[7000000]⟩)] 6 Eu Tryz.func247 0
def Ar4:Av:=Au [g_0,Bd7] (fun d=>(Agw d.1 d.2.1).val) fun r=>([rv g_0 r],[])
theorem A1v:Fn Tryz.prog 249 .plain Ar4:=D7 [] trivial ⟨[(1,.v false [(.int .u8,.nil)]),(5,.v false [(.sl 5 [.int .u8],(.own 4000000))]),(9,.v false [(.sl 5 [.int .u8],.ro)]),(10,.v false [(.int .i64,.nil)]),(11,.v false [(.int .i64,.nil)])],[],[4000000]⟩ 4000000 [((.exit 0),⟨[(5,.v false [(.sl 5 [.int .u8],(.own 4000000))])],[],[4000000]⟩)] 3 It Tryz.func249 0
def Apo:Av:=Au [g_0,g_0] (fun d=>(App d.1 d.2.1).val) fun r=>([rv g_0 r],[])
theorem Avx:Fn Tryz.prog 228 .plain Apo:=mkF [(247,.plain,Ak0),(249,.plain,Ar4),(165,.plain,Jj),(248,.plain,At1)] ⟨Axj,A1v,Kd,Ayy,trivial⟩ Tryz.func228 0
def An7:Av:=Au [g_0,g_0,g_3] (fun d=>(Acp d.1 d.2.1 d.2.2.1).val) fun r=>([rv g_0 r],[])
theorem Ayz:Fn Tryz.prog 259 .plain An7:=mkF [(44,.plain,B5),(165,.plain,Jj),(196,.plain,Qf),(228,.plain,Apo)] ⟨By,Kd,R6,Avx,trivial⟩ Tryz.func259 0
def Ar5:Av:=Au [g_0,g_0,g_3] (fun d=>(Agx d.1 d.2.1 d.2.2.1).val) fun r=>([rv g_0 r],[])
theorem A1w:Fn Tryz.prog 250 .plain Ar5:=D7 [(44,.plain,B5),(259,.plain,An7),(46,.plain,Do)] ⟨By,Ayz,Df,trivial⟩ ⟨[(0,.v false [(.sl 5 [.int .u8],.ro)]),(1,.v false [(.sl 5 [.int .u8],.ro)]),(2,.v false [(.int .i64,.nil)]),(7,.v false [(.sl 5 [.int .u8],(.own 6000000))]),(8,.v false [(.int .i64,.nil)])],[],[6000000]⟩ 6000000 [((.exit 0),⟨[(2,.v false [(.int .i64,.nil)]),(7,.v false [(.sl 5 [.int .u8],(.own 6000000))])],[],[6000000]⟩)] 5 Iu Tryz.func250 0
def A2y:Av:=Au [g_0,g_0,g_0] (fun d=>(At3 d.1 d.2.1 d.2.2.1).val) fun r=>([rv g_0 r],[])
theorem A9b:Fn Tryz.prog 238 .plain A2y:=D7 [(250,.plain,Ar5)] ⟨A1w,trivial⟩ ⟨[(2,.v false [(.sl 5 [.int .u8],.ro)]),(7,.v false [(.sl 5 [.int .u8],(.own 6000000))]),(28,.v false [(.sl 5 [.int .u8],(.own 6000001))]),(29,.v false [(.int .i64,.nil)]),(30,.v false [(.int .i64,.nil)])],[],[6000000,6000001]⟩ 6000000 [((.exit 0),⟨[(7,.v false [(.sl 5 [.int .u8],(.own 6000000))])],[],[6000000]⟩)] 5 Nr Tryz.func238 0
def X4:Av:=Au [g_3,g_7] (fun d=>(X5 d.1 d.2.1).val) fun r=>([rv g_0 r],[])
theorem Aja:Fn Tryz.prog 97 .plain X4:=mkF [(128,.plain,Oj),(74,.plain,Wk),(71,.plain,Rk),(166,.plain,Ags),(165,.plain,Jj)] ⟨Rl,Ack,Xq,An1,Kd,trivial⟩ Tryz.func97 0
def A2z:Av:=Au [g_0,g_0] (fun d=>(At4 d.1 d.2.1).val) fun r=>([rv g_0 r],[])
theorem A9c:Fn Tryz.prog 227 .plain A2z:=mkF [(228,.plain,Apo),(46,.plain,Do)] ⟨Avx,Df,trivial⟩ Tryz.func227 0
def Ay0:Av:=Au [g_0,g_3,g_0,g_3,g_3,g_3,g_0] (fun d=>(Apq d.1 d.2.1 d.2.2.1 d.2.2.2.1 d.2.2.2.2.1 d.2.2.2.2.2.1 d.2.2.2.2.2.2.1).val) fun r=>([rv g_7 r.1,rv g_1 r.2],[])
theorem A6x:Fn Tryz.prog 207 .plain Ay0:=mkF [(46,.plain,Do),(128,.plain,Oj),(74,.plain,Wk),(71,.plain,Rk),(166,.plain,Ags),(238,.plain,A2y),(97,.plain,X4),(227,.plain,A2z)] ⟨Df,Rl,Ack,Xq,An1,A9b,Aja,A9c,trivial⟩ Tryz.func207 0
def Ar6:Av:=Au [g_9,g_3,g_0,g_3,g_0] (fun d=>(Agy d.1 d.2.1 d.2.2.1 d.2.2.2.1 d.2.2.2.2.1).val) fun r=>([rv g_9 r.1,rv g_7 r.2.1,rv g_3 r.2.2],[])
theorem A1x:Fn Tryz.prog 155 .plain Ar6:=mkF [(182,.plain,Agc),(129,.plain,Agm),(207,.plain,Ay0)] ⟨Anw,Akq,A6x,trivial⟩ Tryz.func155 0
def Ak1:Av:=Au [Fk,g_3,g_0] (fun d=>(X6 d.1 d.2.1 d.2.2.1).val) fun r=>([rv Fk r.1,rv g_7 r.2.1,rv g_3 r.2.2],[])
theorem Axk:Fn Tryz.prog 86 .plain Ak1:=mkF [(123,.plain,K2),(60,.plain,Ly),(155,.plain,Ar6)] ⟨My,Mh,A1x,trivial⟩ Tryz.func86 0
def Ak2:Av:=Au [Fk] (fun d=>(Ak3 d.1).val) fun r=>([rv Fk r.1,rv g_7 r.2.1,rv g_3 r.2.2],[])
theorem Axl:Fn Tryz.prog 89 .plain Ak2:=mkF [(60,.plain,Ly),(123,.plain,K2),(157,.plain,Ai5),(86,.plain,Ak1)] ⟨Mh,My,Atu,Axk,trivial⟩ Tryz.func89 0
def Ay1:Av:=Au [g_0,g_0] (fun d=>(Apr d.1 d.2.1).val) fun r=>([rv Ati r],[])
theorem A6y:Fn Tryz.prog 142 .plain Ay1:=mkF [(46,.plain,Do)] ⟨Df,trivial⟩ Tryz.func142 0
def Ar7:Av:=Au [Fk,g_7] (fun d=>(Agz d.1 d.2.1).val) fun r=>([rv Ati r],[])
theorem A1y:Fn Tryz.prog 87 .plain Ar7:=mkF [(97,.plain,X4),(142,.plain,Ay1)] ⟨Aja,A6y,trivial⟩ Tryz.func87 0
def Ar8:Av:=Au [g_5,g_3] (fun d=>(Ar9 d.1 d.2.1).val) fun r=>([rv g_5 r.1,rv Ax3 r.2.1,rv Ax4 r.2.2],[])
theorem A1z:Fn Tryz.prog 61 .plain Ar8:=mkF [(63,.plain,Apk),(90,.plain,Avr),(43,.plain,Lx),(131,.plain,Akv),(62,.plain,Th),(47,.plain,Xu),(89,.plain,Ak2),(87,.plain,Ar7)] ⟨Avq,A4l,Oi,Axb,Ad9,Ai4,Axl,A1y,trivial⟩ Tryz.func61 0
def Aeg:Av:=Au [g_5,g_3] (fun d=>(Iv d.1 d.2.1).val) fun r=>([rv g_5 r.1,rv Ax3 r.2.1,rv Ax4 r.2.2],[])
theorem Asa:Fn Tryz.prog 13 .plain Aeg:=mkF [(43,.plain,Lx),(12,.plain,Ol),(44,.plain,B5),(61,.plain,Ar8),(62,.plain,Th),(63,.plain,Apk),(46,.plain,Do),(48,.plain,Ago),(64,.plain,S9)] ⟨Oi,Te,By,A1z,Ad9,Avq,Df,Anz,Ad2,trivial⟩ Tryz.func13 0
def Asb:Av:=Au [g_3] (fun d=>(Asc d.1).val) fun r=>([rv g_3 r],[])
theorem A10:Fn Tryz.prog 14 .plain Asb:=mkF [(44,.plain,B5)] ⟨By,trivial⟩ Tryz.func14 0
end
end Go.Proofs.YtjlblagmjlmglaaGreat

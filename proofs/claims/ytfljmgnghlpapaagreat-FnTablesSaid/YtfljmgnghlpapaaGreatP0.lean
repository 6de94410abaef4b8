/-
  That the functions of the seat answer what the terms of text W say; nothing is assumed.
-/
import Derived.Test.YtfljmgnghlpapaaGreatW
import Derived.Test.YtfljmgnghlpapaaGreatProg
import Derived.KernelRfl
namespace Go.Proofs.YtfljmgnghlpapaaGreat
open Go.RowKit
set_option linter.unusedVariables false
set_option maxRecDepth 100000
set_option maxHeartbeats 4000000
noncomputable section
abbrev h_0:List Sh:=[.int .i64,.int .i64,.bool,.int .u8]
abbrev h_1:List Sh:=[.sl 5 [.int .u8],.int .i64,.int .i64]
abbrev h_2:List Sh:=[.int .i64,.int .i64,.int .i64,.int .i64]
abbrev h_3:List Sh:=[.sl 3 [.int .i64],.sl 5 [.int .u8],.int .i64]
abbrev h_4:List Sh:=[.int .i64,.int .i64,.sl 5 [.int .u8],.int .i64]
abbrev h_5:List Sh:=[.int .i64,.sl 5 [.int .u8],.int .i64,.int .i64,.sl 3 [.int .i64]]
abbrev h_6:List Sh:=[.int .i64,.int .i64,.sl 169 h_4]
abbrev h_7:List Sh:=[.int .i64,.int .i64,.int .i64,.sl 5 [.int .u8],.sl 5 [.int .u8],.int .i64,.int .i64,.sl 5 [.int .u8],.sl 5 [.int .u8],.int .i64,.int .i64,.int .i64]
abbrev h_8:List Sh:=[.int .i64,.int .i64,.sl 5 [.int .u8],.sl 5 [.int .u8],.int .i64,.sl 5 [.int .u8],.sl 5 [.int .u8],.int .i64,.int .i64,.sl 5 [.int .u8],.sl 5 [.int .u8]]
abbrev h_9:List Sh:=[.int .i64,.int .i64,.int .i64,.int .i64,.sl 5 [.int .u8],.sl 5 [.int .u8],.int .i64,.sl 5 [.int .u8],.sl 5 [.int .u8],.int .i64,.int .i64,.sl 5 [.int .u8],.sl 5 [.int .u8]]
abbrev Azg:List Sh:=[.int .i64,.sl 5 [.int .u8],.int .i64,.sl 5 [.int .u8],.int .i64,.int .i64,.sl 3 [.int .i64],.int .i64,.sl 5 [.int .u8],.int .i64,.int .i64,.sl 3 [.int .i64],.bool,.int .i64,.sl 5 [.int .u8]]
abbrev C5:List Sh:=[.int .i64,.sl 5 [.int .u8],.sl 5 [.int .u8],.int .i64,.sl 5 [.int .u8],.int .i64,.sl 5 [.int .u8],.int .i64,.int .i64,.sl 3 [.int .i64],.int .i64,.sl 5 [.int .u8],.int .i64,.int .i64,.sl 3 [.int .i64],.bool,.int .i64,.sl 5 [.int .u8],.int .i64,.int .i64,.sl 169 h_4,.int .i64,.int .i64,.bool]
abbrev A0x:List Sh:=[.sl 22 [.sl 5 [.int .u8]],.sl 5 [.int .u8],.sl 5 [.int .u8],.int .i64,.int .i64,.sl 40 C5,.sl 147 h_2]
abbrev g_0:Bool×List Sh:=(false,[.sl 5 [.int .u8]])
abbrev g_1:Bool×List Sh:=(false,[.bool])
abbrev g_2:Bool×List Sh:=(true,h_1)
abbrev g_3:Bool×List Sh:=(false,[.int .i64])
abbrev g_4:Bool×List Sh:=(true,[.int .i64,.sl 40 C5])
abbrev g_5:Bool×List Sh:=(true,h_8)
abbrev g_6:Bool×List Sh:=(false,[.sl 3 [.int .i64]])
abbrev g_7:Bool×List Sh:=(false,[.str])
abbrev g_8:Bool×List Sh:=(true,[.int .i64,.int .i64])
abbrev g_9:Bool×List Sh:=(true,[.int .i64,.sl 3 [.int .i64]])
abbrev Jv:Bool×List Sh:=(true,h_5)
abbrev Jw:Bool×List Sh:=(true,Azg)
abbrev Fs:Bool×List Sh:=(true,h_6)
abbrev Ft:Bool×List Sh:=(true,C5)
abbrev Azh:Bool×List Sh:=(true,h_4)
def tys:List (Nat×Ty):=[(3,⟨false,[.int .i64],[],false,[]⟩),
 (4,⟨false,[.bool],[],false,[]⟩),
 (5,⟨false,[.int .u8],[],false,[]⟩),
 (9,⟨false,[.str],[],false,[]⟩),
 (22,⟨false,[.sl 5 [.int .u8]],[],false,[]⟩),
 (24,⟨false,[.sl 40 C5],[],false,[]⟩),
 (26,⟨true,[.int .i64,.sl 40 C5],[(0,1),(1,1)],false,[]⟩),
 (27,⟨false,[.sl 3 [.int .i64]],[],false,[]⟩),
 (29,⟨true,[.int .i64,.sl 3 [.int .i64]],[(0,1),(1,1)],false,[]⟩),
 (31,⟨true,h_5,[(0,1),(1,1),(2,1),(3,2)],false,[]⟩),
 (33,⟨true,Azg,[(0,1),(1,1),(2,5),(7,5),(12,1),(13,1),(14,1)],false,[]⟩),
 (35,⟨true,[.int .i64,.int .i64],[(0,1),(1,1)],true,[]⟩),
 (36,⟨false,[.sl 169 h_4],[],false,[]⟩),
 (38,⟨true,h_6,[(0,2),(2,1)],false,[35,36]⟩),
 (40,⟨true,C5,[(0,1),(1,1),(2,1),(3,15),(18,3),(21,1),(22,1),(23,1)],false,[]⟩),
 (74,⟨true,h_8,[(0,1),(1,1),(2,1),(3,1),(4,1),(5,1),(6,1),(7,1),(8,1),(9,1),(10,1)],false,[]⟩),
 (125,⟨true,h_1,[(0,1),(1,1),(2,1)],false,[]⟩),
 (169,⟨true,h_4,[(0,2),(2,1),(3,1)],false,[]⟩),
 (170,⟨false,[.int .u64],[],false,[]⟩)]
theorem Jx:Asa Tryz.prog tys=true:=by kernel_rfl
theorem No:Tryz.prog.follows .mixedOrders=true:=by kernel_rfl
abbrev D9 (C:Fns):Cfg:=⟨Agu tys,Np C,Ll C,3,4⟩
theorem mkF {f:FuncId} {fn:Func} {kd:Kind} {ps:List (Bool×List Sh)} {R:Type} {T:Kw ps→Tree R} {rvs:R→List RV×List RV} (C:Fns) (hc:Kl Tryz.prog C) (hf:Tryz.prog.funcs[f]? =some fn) (np:Nat) (hn:(fn.name== "runtime.NumGoroutine")=false:=by kernel_rfl) (hb:fn.body.isSome=true:=by kernel_rfl) (hl:Bi (fn.body.getD .skip)=[]:=by kernel_rfl)
  (he: ∀d,Gw (D9 C) np (fun _ _=>.fail) fn kd (mkA ps d)=(T d).run fun r=>some (rvs r):=by intro d;kernel_rfl):Fn Tryz.prog f kd (Aw ps (fun d=>(T d).val) rvs):=
 Pn (Gs No Jx hc) hf hn hb (fun cx b hp hbb=>by rw[hl]at hbb;cases hbb) he
abbrev lpq (r:Nat) (K:Sk) (z:Nat) (X:List (Ex×Sk)) (B:K.den→Option (K.den⊕Kx X)):E4:=fun i st=>cond (Nat.beq i r) (lam K z X B st) .fail
theorem C8 {f:FuncId} {fn:Func} {kd:Kind} {ps:List (Bool×List Sh)} {R:Type} {T:Kw ps→Tree R} {rvs:R→List RV×List RV} (C:Fns) (hc:Kl Tryz.prog C) (K:Sk) (z:Nat) (X:List (Ex×Sk)) (r:Nat) (B:K.den→Option (K.den⊕Kx X)) (hf:Tryz.prog.funcs[f]? =some fn) (np:Nat) (hn:(fn.name== "runtime.NumGoroutine")=false:=by kernel_rfl) (hb:fn.body.isSome=true:=by kernel_rfl) (h1:Bi (fn.body.getD .skip)=[A8 fn 0]:=by kernel_rfl) (h2:Bi (A8 fn 0)=[]:=by kernel_rfl)
  (hq:lpq r K z X B (Hw (A8 fn 0))=lam K z X B:=by kernel_rfl) (hl: ∀d,bod (D9 C) np fn.ntmps (lpq r K z X B) (A8 fn 0) K z X d=B d:=by intro d;kernel_rfl)
  (he: ∀d,Gw (D9 C) np (lpq r K z X B) fn kd (mkA ps d)=(T d).run fun r=>some (rvs r):=by intro d;kernel_rfl):Fn Tryz.prog f kd (Aw ps (fun d=>(T d).val) rvs):=
 Pn (Gs No Jx hc) hf hn hb (fun cx b hp hbb=>Dt h1 ⟨F0 (Gs No Jx hc) hp (Dt h2 trivial) hq hl,trivial⟩ b hbb) he
def Aq6:Ax:=Aw [g_0] (fun d=>(Aq7 d.1).val) fun r=>([rv g_1 r],[])
theorem Awc:Fn Tryz.prog 6 .plain Aq6:=mkF [] trivial Tryz.func6 0
def Si:Ax:=Aw [g_0] (fun d=>(Aaq d.1).val) fun r=>([rv g_2 r],[])
theorem V8:Fn Tryz.prog 39 .ret Si:=C8 [] trivial ⟨[(0,.v false [(.sl 5 [.int .u8],.ro)]),(3,.v false [(.int .i64,.nil)]),(4,.v false [(.int .i64,.nil)])],[],[]⟩ 4000000 [((.exit 0),⟨[(0,.v false [(.sl 5 [.int .u8],.ro)]),(3,.v false [(.int .i64,.nil)])],[],[]⟩)] 3 Nq Tryz.func39 0
def Po:Ax:=Aw [g_2] (fun d=>(V9 d.1).val) fun r=>([rv g_3 r.1],[rv g_2 r.2])
theorem Tp:Fn Tryz.prog 97 (.box [3] true true) Po:=mkF [] trivial Tryz.func97 1
def B9:Ax:=Aw [g_2,g_3] (fun d=>(Tq d.1 d.2.1).val) fun r=>([rv g_3 r.1],[rv g_2 r.2])
theorem B4:Fn Tryz.prog 43 (.box [3] true true) B9:=mkF [(97,(.box [3] true true),Po)] ⟨Tp,trivial⟩ Tryz.func43 1
def Cc:Ax:=Aw [g_3,g_3,g_3] (fun d=>(Afb d.1 d.2.1 d.2.2.1).val) fun r=>([rv g_1 r],[])
theorem B5:Fn Tryz.prog 56 .plain Cc:=mkF [] trivial Tryz.func56 0
def Agv:Ax:=Aw [g_3] (fun d=>(Wa d.1).val) fun r=>([rv g_4 r],[])
theorem Apx:Fn Tryz.prog 70 .plain Agv:=mkF [(56,.plain,Cc)] ⟨B5,trivial⟩ Tryz.func70 0
def Du:Ax:=Aw [g_2,g_3] (fun d=>(Tr d.1 d.2.1).val) fun r=>([rv g_0 r.1],[rv g_2 r.2])
theorem Dv:Fn Tryz.prog 94 (.box [3] true true) Du:=C8 [(97,(.box [3] true true),Po)] ⟨Tp,trivial⟩ ⟨[(0,.box 0 0),(1,.v false [(.int .i64,.nil)]),(5,.v false [(.sl 5 [.int .u8],(.own 4000000))]),(6,.v false [(.int .i64,.nil)])],[(0,[(.sl 5 [.int .u8],(.pin 0)),(.int .i64,.nil),(.int .i64,.nil)])],[4000000]⟩ 4000000 [((.exit 0),⟨[(0,.box 0 0),(5,.v false [(.sl 5 [.int .u8],(.own 4000000))])],[(0,[(.sl 5 [.int .u8],(.pin 0)),(.int .i64,.nil),(.int .i64,.nil)])],[4000000]⟩)] 3 Hx Tryz.func94 1
def Z3:Ax:=Aw [g_2] (fun d=>(O7 d.1).val) fun r=>([rv g_5 r.1],[rv g_2 r.2])
theorem Ai1:Fn Tryz.prog 146 (.box [3] true true) Z3:=mkF [(94,(.box [3] true true),Du),(43,(.box [3] true true),B9)] ⟨Dv,B4,trivial⟩ Tryz.func146 1
def Agw:Ax:=Aw [g_3] (fun d=>(Wb d.1).val) fun r=>([rv g_1 r],[])
theorem Apy:Fn Tryz.prog 207 .plain Agw:=mkF [(56,.plain,Cc)] ⟨B5,trivial⟩ Tryz.func207 0
def Agx:Ax:=Aw [g_3,g_3] (fun d=>(Wc d.1 d.2.1).val) fun r=>([rv g_1 r],[])
theorem Apz:Fn Tryz.prog 208 .plain Agx:=mkF [] trivial Tryz.func208 0
def Ts:Ax:=Aw [g_5] (fun d=>(Tt d.1).val) fun r=>([rv g_1 r],[])
theorem Aar:Fn Tryz.prog 177 .plain Ts:=mkF [(207,.plain,Agw),(56,.plain,Cc),(208,.plain,Agx)] ⟨Apy,B5,Apz,trivial⟩ Tryz.func177 0
def Sj:Ax:=Aw [g_0] (fun d=>(Aas d.1).val) fun r=>([rv g_1 r],[])
theorem Wd:Fn Tryz.prog 126 .plain Sj:=mkF [(56,.plain,Cc)] ⟨B5,trivial⟩ Tryz.func126 0
def We:Ax:=Aw [g_0,g_3,g_3] (fun d=>(Afc d.1 d.2.1 d.2.2.1).val) fun r=>([rv g_0 r],[])
theorem Aat:Fn Tryz.prog 140 .plain We:=C8 [] trivial ⟨[(1,.v false [(.int .i64,.nil)]),(7,.v false [(.sl 5 [.int .u8],(.own 6000000))]),(8,.v false [(.int .i64,.nil)])],[],[6000000]⟩ 6000000 [((.exit 0),⟨[(7,.v false [(.sl 5 [.int .u8],(.own 6000000))])],[],[6000000]⟩)] 5 Lm Tryz.func140 0
def Aq8:Ax:=Aw [g_3] (fun d=>(Ai2 d.1).val) fun r=>([rv g_0 r],[])
theorem Awd:Fn Tryz.prog 201 .plain Aq8:=C8 [(140,.plain,We)] ⟨Aat,trivial⟩ ⟨[(0,.v false [(.int .i64,.nil)]),(3,.v false [(.sl 5 [.int .u8],(.own 5000000))])],[],[5000000]⟩ 5000000 [((.exit 0),⟨[(0,.v false [(.int .i64,.nil)]),(3,.v false [(.sl 5 [.int .u8],(.own 5000000))])],[],[5000000]⟩)] 4 Aau Tryz.func201 0
def Akk:Ax:=Aw [] (fun d=>(Akl).val) fun r=>([rv g_6 r],[])
theorem Asb:Fn Tryz.prog 202 .plain Akk:=mkF [] trivial Tryz.func202 0
def Ad7:Ax:=Aw [g_6] (fun d=>(Tu d.1).val) fun r=>([rv g_1 r],[])
theorem Am2:Fn Tryz.prog 229 .plain Ad7:=C8 [(56,.plain,Cc)] ⟨B5,trivial⟩ ⟨[(0,.v false [(.sl 3 [.int .i64],.ro)]),(3,.v false [(.int .i64,.nil)])],[],[]⟩ 3000000 [(.ret,⟨[(2,.v false [(.bool,.nil)])],[],[]⟩),((.exit 0),⟨[(0,.v false [(.sl 3 [.int .i64],.ro)])],[],[]⟩)] 2 Hy Tryz.func229 0
def Aq9:Ax:=Aw [] (fun d=>(Ara).val) fun r=>([rv g_6 r],[])
theorem Awe:Fn Tryz.prog 230 .plain Aq9:=mkF [] trivial Tryz.func230 0
def Am3:Ax:=Aw [g_0,g_3,g_3] (fun d=>(Afd d.1 d.2.1 d.2.2.1).val) fun r=>([rv g_3 r.1,rv g_3 r.2.1,rv g_1 r.2.2],[])
theorem Auh:Fn Tryz.prog 237 .plain Am3:=C8 [] trivial ⟨[(0,.v false [(.sl 5 [.int .u8],.ro)]),(1,.v false [(.int .i64,.nil)]),(2,.v false [(.int .i64,.nil)]),(9,.v false [(.int .i64,.nil)]),(10,.v false [(.int .i64,.nil)])],[],[]⟩ 6000000 [((.exit 0),⟨[(1,.v false [(.int .i64,.nil)]),(2,.v false [(.int .i64,.nil)]),(9,.v false [(.int .i64,.nil)])],[],[]⟩)] 5 Jb Tryz.func237 0
def Ai3:Ax:=Aw [g_3,g_3] (fun d=>(Ai4 d.1 d.2.1).val) fun r=>([rv g_3 r],[])
theorem Am4:Fn Tryz.prog 232 .plain Ai3:=mkF [] trivial Tryz.func232 0
def Aav:Ax:=Aw [g_0] (fun d=>(Ln d.1).val) fun r=>([rv g_6 r],[])
def Ii:Fns:=[(237,.plain,Am3),(232,.plain,Ai3)]
theorem Ql:CfgOk Tryz.prog (D9 Ii):=Gs No Jx (show Kl Tryz.prog Ii from⟨Auh,Am4,trivial⟩)
def Sl:Sk:=⟨[(3,.v false [(.sl 3 [.int .i64],(.own 11000000))]),(8,.v false [(.int .i64,.nil)])],[],[11000000]⟩
def Sm:List (Ex×Sk):=[((.exit 2),⟨[(3,.v false [(.sl 3 [.int .i64],(.own 11000000))])],[],[11000000]⟩)]
def Vi:Sk:=⟨[(0,.v false [(.sl 5 [.int .u8],.ro)]),(3,.v false [(.sl 3 [.int .i64],(.own 6000000))]),(4,.v false [(.int .i64,.nil)])],[],[6000000]⟩
def Vj:List (Ex×Sk):=[((.exit 0),⟨[(3,.v false [(.sl 3 [.int .i64],(.own 6000000))])],[],[6000000]⟩)]
def Ij:E4:=fun i st=>cond (Nat.beq i 5) (lam Vi 6000000 Vj Fl st) <| cond (Nat.beq i 10) (lam Sl 11000000 Sm E5 st) <| .fail
theorem Agy (cx:Cx) (hp:cx.pin.length≤0):Dw Tryz.prog cx Tryz.f231.ntmps Ij (A8 Tryz.f231 0):=F0 Ql hp (Dt (by kernel_rfl:Bi (A8 Tryz.f231 0)=[]) trivial) (by kernel_rfl) (fun d=>(by kernel_rfl:bod (D9 Ii) 0 Tryz.f231.ntmps Ij (A8 Tryz.f231 0) Vi 6000000 Vj d=Fl d))
theorem Afe (cx:Cx) (hp:cx.pin.length≤0):Dw Tryz.prog cx Tryz.f231.ntmps Ij (A8 Tryz.f231 1):=F0 Ql hp (Dt (by kernel_rfl:Bi (A8 Tryz.f231 1)=[]) trivial) (by kernel_rfl) (fun d=>(by kernel_rfl:bod (D9 Ii) 0 Tryz.f231.ntmps Ij (A8 Tryz.f231 1) Sl 11000000 Sm d=E5 d))
theorem Al6:Fn Tryz.prog 231 .plain Aav:=Pn Ql Tryz.func231 (by kernel_rfl) (by kernel_rfl) (fun cx b hp hb=>Dt (by kernel_rfl:Bi (Tryz.f231.body.getD .skip)=[A8 Tryz.f231 0,A8 Tryz.f231 1]) ⟨Agy cx hp,Afe cx hp,trivial⟩ b hb) (fun d=>(by kernel_rfl:Gw (D9 Ii) 0 Ij Tryz.f231 .plain (mkA [g_0] d)=(Ln d.1).run fun r=>some ([rv g_6 r],[])))
def Aaw:Ax:=Aw [g_6,g_0] (fun d=>(Lo d.1 d.2.1).val) fun r=>([rv g_6 r],[])
def Ik:Fns:=[(229,.plain,Ad7),(230,.plain,Aq9),(231,.plain,Aav),(232,.plain,Ai3)]
theorem Qm:CfgOk Tryz.prog (D9 Ik):=Gs No Jx (show Kl Tryz.prog Ik from⟨Am2,Awe,Al6,Am4,trivial⟩)
def So:Sk:=⟨[(0,.v false [(.sl 3 [.int .i64],.ro)]),(5,.v false [(.sl 3 [.int .i64],(.own 23000000))]),(19,.v false [(.sl 3 [.int .i64],(.own 23000001))]),(20,.v false [(.int .i64,.nil)])],[],[23000000,23000001]⟩
def Sp:List (Ex×Sk):=[((.exit 2),⟨[(5,.v false [(.sl 3 [.int .i64],(.own 23000000))])],[],[23000000]⟩)]
def Vk:Sk:=⟨[(0,.v false [(.sl 3 [.int .i64],.ro)]),(5,.v false [(.sl 3 [.int .i64],(.own 9000000))]),(6,.v false [(.sl 3 [.int .i64],(.own 9000001))]),(7,.v false [(.sl 3 [.int .i64],(.own 9000002))]),(8,.v false [(.int .i64,.nil)]),(9,.v false [(.int .i64,.nil)]),(10,.v false [(.int .i64,.nil)]),(11,.v false [(.int .i64,.nil)]),(12,.v false [(.int .i64,.nil)]),(13,.v false [(.int .i64,.nil)]),(14,.v false [(.int .i64,.nil)]),(15,.v false [(.int .i64,.nil)]),(16,.v false [(.int .i64,.nil)])],[],[9000000,9000001,9000002]⟩
def Vl:List (Ex×Sk):=[((.exit 0),⟨[(0,.v false [(.sl 3 [.int .i64],.ro)]),(5,.v false [(.sl 3 [.int .i64],(.own 9000000))]),(8,.v false [(.int .i64,.nil)]),(9,.v false [(.int .i64,.nil)]),(10,.v false [(.int .i64,.nil)]),(11,.v false [(.int .i64,.nil)]),(12,.v false [(.int .i64,.nil)]),(13,.v false [(.int .i64,.nil)]),(14,.v false [(.int .i64,.nil)]),(15,.v false [(.int .i64,.nil)])],[],[9000000]⟩)]
def Il:E4:=fun i st=>cond (Nat.beq i 8) (lam Vk 9000000 Vl El st) <| cond (Nat.beq i 22) (lam So 23000000 Sp Ea st) <| .fail
theorem Agz (cx:Cx) (hp:cx.pin.length≤0):Dw Tryz.prog cx Tryz.f203.ntmps Il (A8 Tryz.f203 0):=F0 Qm hp (Dt (by kernel_rfl:Bi (A8 Tryz.f203 0)=[]) trivial) (by kernel_rfl) (fun d=>(by kernel_rfl:bod (D9 Ik) 0 Tryz.f203.ntmps Il (A8 Tryz.f203 0) Vk 9000000 Vl d=El d))
theorem Aff (cx:Cx) (hp:cx.pin.length≤0):Dw Tryz.prog cx Tryz.f203.ntmps Il (A8 Tryz.f203 1):=F0 Qm hp (Dt (by kernel_rfl:Bi (A8 Tryz.f203 1)=[]) trivial) (by kernel_rfl) (fun d=>(by kernel_rfl:bod (D9 Ik) 0 Tryz.f203.ntmps Il (A8 Tryz.f203 1) So 23000000 Sp d=Ea d))
theorem Al7:Fn Tryz.prog 203 .plain Aaw:=Pn Qm Tryz.func203 (by kernel_rfl) (by kernel_rfl) (fun cx b hp hb=>Dt (by kernel_rfl:Bi (Tryz.f203.body.getD .skip)=[A8 Tryz.f203 0,A8 Tryz.f203 1]) ⟨Agz cx hp,Aff cx hp,trivial⟩ b hb) (fun d=>(by kernel_rfl:Gw (D9 Ik) 0 Il Tryz.f203 .plain (mkA [g_6,g_0] d)=(Lo d.1 d.2.1).run fun r=>some ([rv g_6 r],[])))
def Akm:Ax:=Aw [g_6] (fun d=>(Aax d.1).val) fun r=>([rv g_0 r],[])
theorem Asc:Fn Tryz.prog 204 .plain Akm:=C8 [(140,.plain,We)] ⟨Aat,trivial⟩ ⟨[(0,.v false [(.sl 3 [.int .i64],.ro)]),(3,.v false [(.sl 5 [.int .u8],(.own 4000000))]),(4,.v false [(.int .i64,.nil)])],[],[4000000]⟩ 4000000 [((.exit 0),⟨[(3,.v false [(.sl 5 [.int .u8],(.own 4000000))])],[],[4000000]⟩)] 3 H3 Tryz.func204 0
def Ai5:Ax:=Aw [g_0] (fun d=>(Ai6 d.1).val) fun r=>([rv g_0 r],[])
theorem Am5:Fn Tryz.prog 173 .plain Ai5:=C8 [(201,.plain,Aq8),(202,.plain,Akk),(203,.plain,Aaw),(204,.plain,Akm)] ⟨Awd,Asb,Al7,Asc,trivial⟩ ⟨[(3,.v false [(.sl 5 [.int .u8],(.own 7000000))]),(4,.v false [(.sl 3 [.int .i64],(.own 7000001))]),(5,.v false [(.int .i64,.nil)])],[],[7000000,7000001]⟩ 7000000 [((.exit 0),⟨[(4,.v false [(.sl 3 [.int .i64],(.own 7000000))])],[],[7000000]⟩)] 6 K7 Tryz.func173 0
def Aay:Ax:=Aw [g_0] (fun d=>(Qn d.1).val) fun r=>([rv g_0 r],[])
theorem Al8:Fn Tryz.prog 172 .plain Aay:=C8 [(173,.plain,Ai5)] ⟨Am5,trivial⟩ ⟨[(3,.v false [(.sl 5 [.int .u8],(.own 7000000))])],[],[7000000]⟩ 7000000 [((.exit 0),⟨[(3,.v false [(.sl 5 [.int .u8],(.own 7000000))])],[],[7000000]⟩)] 6 Jc Tryz.func172 0
def Wg:Ax:=Aw [g_0,g_0] (fun d=>(Afg d.1 d.2.1).val) fun r=>([rv g_0 r],[])
theorem Aaz:Fn Tryz.prog 141 .plain Wg:=C8 [(172,.plain,Aay),(173,.plain,Ai5)] ⟨Al8,Am5,trivial⟩ ⟨[(1,.v false [(.sl 5 [.int .u8],.ro)]),(5,.v false [(.sl 5 [.int .u8],(.own 8000000))]),(6,.v false [(.sl 5 [.int .u8],(.own 8000001))]),(7,.v false [(.sl 5 [.int .u8],(.own 8000002))]),(8,.v false [(.int .i64,.nil)])],[],[8000000,8000001,8000002]⟩ 8000000 [((.exit 0),⟨[(1,.v false [(.sl 5 [.int .u8],.ro)]),(6,.v false [(.sl 5 [.int .u8],(.own 8000000))]),(7,.v false [(.sl 5 [.int .u8],(.own 8000001))])],[],[8000000,8000001]⟩)] 7 Jd Tryz.func141 0
def Tv:Ax:=Aw [g_0,g_0] (fun d=>(Nr d.1 d.2.1).val) fun r=>([rv g_0 r],[])
theorem Aa0:Fn Tryz.prog 234 .plain Tv:=mkF [(141,.plain,Wg)] ⟨Aaz,trivial⟩ Tryz.func234 0
def Ag0:Ax:=Aw [g_0,g_0,g_3] (fun d=>(Wh d.1 d.2.1 d.2.2.1).val) fun r=>([rv g_0 r.1,rv g_1 r.2],[])
theorem Ap0:Fn Tryz.prog 168 .plain Ag0:=C8 [(56,.plain,Cc),(141,.plain,Wg)] ⟨B5,Aaz,trivial⟩ ⟨[(0,.v false [(.sl 5 [.int .u8],.ro)]),(1,.v false [(.sl 5 [.int .u8],.ro)]),(2,.v false [(.int .i64,.nil)]),(8,.v false [(.sl 5 [.int .u8],(.own 7000000))]),(9,.v false [(.sl 5 [.int .u8],(.own 7000001))]),(10,.v false [(.int .i64,.nil)])],[],[7000000,7000001]⟩ 7000000 [((.exit 0),⟨[(2,.v false [(.int .i64,.nil)]),(8,.v false [(.sl 5 [.int .u8],(.own 7000000))])],[],[7000000]⟩)] 6 Gy Tryz.func168 0
def Lp:Ax:=Aw [g_0,g_7] (fun d=>(Wi d.1 d.2.1).val) fun r=>([rv g_0 r],[])
theorem Ns:Fn Tryz.prog 128 .plain Lp:=mkF [(168,.plain,Ag0)] ⟨Ap0,trivial⟩ Tryz.func128 0
def Z4:Ax:=Aw [g_0] (fun d=>(O8 d.1).val) fun r=>([rv g_0 r],[])
theorem Ai7:Fn Tryz.prog 209 .plain Z4:=mkF [(126,.plain,Sj),(234,.plain,Tv),(128,.plain,Lp)] ⟨Wd,Aa0,Ns,trivial⟩ Tryz.func209 0
def Z5:Ax:=Aw [g_3,g_0,g_0,g_3,g_0] (fun d=>(O9 d.1 d.2.1 d.2.2.1 d.2.2.2.1 d.2.2.2.2.1).val) fun r=>([rv g_0 r],[])
theorem Ai8:Fn Tryz.prog 210 .plain Z5:=mkF [(56,.plain,Cc),(140,.plain,We)] ⟨B5,Aat,trivial⟩ Tryz.func210 0
def Arb:Ax:=Aw [g_0,g_0] (fun d=>(Ai9 d.1 d.2.1).val) fun r=>([rv g_0 r],[])
theorem Awf:Fn Tryz.prog 86 .plain Arb:=mkF [(141,.plain,Wg)] ⟨Aaz,trivial⟩ Tryz.func86 0
def Akn:Ax:=Aw [g_0,g_3,g_0,g_0,g_3,g_0] (fun d=>(Aa1 d.1 d.2.1 d.2.2.1 d.2.2.2.1 d.2.2.2.2.1 d.2.2.2.2.2.1).val) fun r=>([rv g_0 r],[])
theorem Asd:Fn Tryz.prog 178 .plain Akn:=mkF [(209,.plain,Z4),(210,.plain,Z5),(86,.plain,Arb)] ⟨Ai7,Ai8,Awf,trivial⟩ Tryz.func178 0
def Ag1:Ax:=Aw [g_5] (fun d=>(Wj d.1).val) fun r=>([rv g_5 r],[])
theorem Ap1:Fn Tryz.prog 179 .plain Ag1:=mkF [] trivial Tryz.func179 0
def Aa2:Ax:=Aw [g_0,g_3,g_5] (fun d=>(Qo d.1 d.2.1 d.2.2.1).val) fun r=>([rv g_5 r.1,rv g_1 r.2],[])
theorem Al9:Fn Tryz.prog 145 .plain Aa2:=mkF [(177,.plain,Ts),(178,.plain,Akn),(179,.plain,Ag1)] ⟨Aar,Asd,Ap1,trivial⟩ Tryz.func145 0
def Dp:Ax:=Aw [g_2,g_6] (fun d=>(Aa3 d.1 d.2.1).val) fun r=>([rv g_3 r.1],[rv g_2 r.2])
theorem Dh:Fn Tryz.prog 52 (.box [3] true true) Dp:=mkF [(43,(.box [3] true true),B9)] ⟨B4,trivial⟩ Tryz.func52 1
def Qp:Ax:=Aw [g_3] (fun d=>(Wk d.1).val) fun r=>([rv g_8 r],[])
theorem Sq:Fn Tryz.prog 105 .plain Qp:=mkF [(56,.plain,Cc)] ⟨B5,trivial⟩ Tryz.func105 0
def Pp:Ax:=Aw [g_8] (fun d=>(Wl d.1).val) fun r=>([rv g_1 r],[])
theorem Tw:Fn Tryz.prog 138 .plain Pp:=mkF [(56,.plain,Cc)] ⟨B5,trivial⟩ Tryz.func138 0
def Ad8:Ax:=Aw [g_0,g_0,g_0] (fun d=>(Tx d.1 d.2.1 d.2.2.1).val) fun r=>([rv g_0 r],[])
theorem Am6:Fn Tryz.prog 212 .plain Ad8:=mkF [(126,.plain,Sj),(234,.plain,Tv)] ⟨Wd,Aa0,trivial⟩ Tryz.func212 0
def Aa4:Ax:=Aw [g_0] (fun d=>(Qq d.1).val) fun r=>([rv g_0 r],[])
theorem Ama:Fn Tryz.prog 211 .plain Aa4:=mkF [(128,.plain,Lp)] ⟨Ns,trivial⟩ Tryz.func211 0
def Ako:Ax:=Aw [g_0,g_3] (fun d=>(Aa5 d.1 d.2.1).val) fun r=>([rv g_0 r],[])
theorem Ase:Fn Tryz.prog 213 .plain Ako:=C8 [(56,.plain,Cc),(128,.plain,Lp)] ⟨B5,Ns,trivial⟩ ⟨[(1,.v false [(.int .i64,.nil)]),(5,.v false [(.sl 5 [.int .u8],(.own 6000000))]),(6,.v false [(.int .i64,.nil)])],[],[6000000]⟩ 6000000 [((.exit 0),⟨[(5,.v false [(.sl 5 [.int .u8],(.own 6000000))])],[],[6000000]⟩)] 5 H4 Tryz.func213 0
def Aa6:Ax:=Aw [g_0,g_0,g_0,g_3] (fun d=>(Qr d.1 d.2.1 d.2.2.1 d.2.2.2.1).val) fun r=>([rv g_0 r],[])
theorem Amb:Fn Tryz.prog 181 .plain Aa6:=mkF [(212,.plain,Ad8),(211,.plain,Aa4),(213,.plain,Ako)] ⟨Am6,Ama,Ase,trivial⟩ Tryz.func181 0
def Wm:Ax:=Aw [] (fun d=>(Wn).val) fun r=>([rv g_9 r],[])
theorem Ad9:Fn Tryz.prog 216 .plain Wm:=C8 [] trivial ⟨[(0,.box 0 0),(1,.box 1 0),(2,.v false [(.int .i64,.nil)])],[(0,[(.int .i64,.nil),(.sl 3 [.int .i64],(.own 4000000))]),(1,[(.int .i64,.nil),(.sl 3 [.int .i64],(.own 4000001))])],[4000000,4000001]⟩ 4000000 [((.exit 0),⟨[(0,.box 0 0),(1,.box 1 0)],[(0,[(.int .i64,.nil),(.sl 3 [.int .i64],(.own 4000000))]),(1,[(.int .i64,.nil),(.sl 3 [.int .i64],(.own 4000001))])],[4000000,4000001]⟩)] 3 Gz Tryz.func216 0
def Sr:Ax:=Aw [g_3,g_0] (fun d=>(Aa7 d.1 d.2.1).val) fun r=>([rv Jv r],[])
theorem Wo:Fn Tryz.prog 184 .plain Sr:=mkF [(56,.plain,Cc),(216,.plain,Wm)] ⟨B5,Ad9,trivial⟩ Tryz.func184 0
def Tz:Ax:=Aw [g_3,g_0,g_0] (fun d=>(T0 d.1 d.2.1 d.2.2.1).val) fun r=>([rv Jw r],[])
theorem Aa8:Fn Tryz.prog 180 .plain Tz:=mkF [(56,.plain,Cc),(184,.plain,Sr)] ⟨B5,Wo,trivial⟩ Tryz.func180 0
def Qs:Ax:=Aw [g_8] (fun d=>(Aa9 d.1).val) fun r=>([rv Fs r],[])
theorem Z6:Fn Tryz.prog 182 .plain Qs:=mkF [] trivial Tryz.func182 0
def Aea:Ax:=Aw [g_0,g_3,g_8,g_5] (fun d=>(T1 d.1 d.2.1 d.2.2.1 d.2.2.2.1).val) fun r=>([rv Ft r],[])
theorem Am7:Fn Tryz.prog 147 .plain Aea:=mkF [(126,.plain,Sj),(56,.plain,Cc),(138,.plain,Pp),(177,.plain,Ts),(181,.plain,Aa6),(180,.plain,Tz),(182,.plain,Qs)] ⟨Wd,B5,Tw,Aar,Amb,Aa8,Z6,trivial⟩ Tryz.func147 0
def Er:Ax:=Aw [g_2,g_3] (fun d=>(Wp d.1 d.2.1).val) fun r=>([rv g_1 r.1],[rv g_2 r.2])
theorem Es:Fn Tryz.prog 42 (.box [3] true true) Er:=mkF [(43,(.box [3] true true),B9)] ⟨B4,trivial⟩ Tryz.func42 1
def Ag2:Ax:=Aw [g_2,g_3] (fun d=>(Wq d.1 d.2.1).val) fun r=>([rv g_6 r.1],[rv g_2 r.2])
theorem Ap2:Fn Tryz.prog 215 (.box [3] true true) Ag2:=C8 [(52,(.box [3] true true),Dp),(43,(.box [3] true true),B9),(42,(.box [3] true true),Er)] ⟨Dh,B4,Es,trivial⟩ ⟨[(0,.box 0 0),(5,.v false [(.sl 3 [.int .i64],(.own 5000000))]),(6,.v false [(.int .i64,.nil)]),(7,.v false [(.int .i64,.nil)])],[(0,[(.sl 5 [.int .u8],(.pin 0)),(.int .i64,.nil),(.int .i64,.nil)])],[5000000]⟩ 5000000 [((.exit 0),⟨[(0,.box 0 0),(5,.v false [(.sl 3 [.int .i64],(.own 5000000))])],[(0,[(.sl 5 [.int .u8],(.pin 0)),(.int .i64,.nil),(.int .i64,.nil)])],[5000000]⟩)] 4 Lq Tryz.func215 1
def Wr:Ax:=Aw [g_9] (fun d=>(Ag3 d.1).val) fun r=>([rv g_9 r],[])
theorem Aeb:Fn Tryz.prog 194 .plain Wr:=mkF [] trivial Tryz.func194 0
def Aba:Ax:=Aw [g_9,g_3] (fun d=>(Abb d.1 d.2.1).val) fun r=>([rv g_1 r],[])
theorem Ag4:Fn Tryz.prog 220 .plain Aba:=mkF [] trivial Tryz.func220 0
def Abc:Ax:=Aw [g_9] (fun d=>(Ss d.1).val) fun r=>([rv g_1 r],[])
def Oh:Fns:=[(56,.plain,Cc),(220,.plain,Aba)]
theorem Abd:CfgOk Tryz.prog (D9 Oh):=Gs No Jx (show Kl Tryz.prog Oh from⟨B5,Ag4,trivial⟩)
def Abe:Sk:=⟨[(1,.box 1 0),(4,.v false [(.int .i64,.nil)])],[(1,[(.int .i64,.nil),(.sl 3 [.int .i64],.ro)])],[]⟩
def Abf:List (Ex×Sk):=[(.ret,⟨[(2,.v false [(.bool,.nil)])],[],[]⟩),((.exit 2),⟨[],[],[]⟩)]
def Aec:Sk:=⟨[(1,.box 1 0),(3,.v false [(.int .i64,.nil)])],[(1,[(.int .i64,.nil),(.sl 3 [.int .i64],.ro)])],[]⟩
def Aed:List (Ex×Sk):=[(.ret,⟨[(2,.v false [(.bool,.nil)])],[],[]⟩),((.exit 0),⟨[(1,.box 1 0)],[(1,[(.int .i64,.nil),(.sl 3 [.int .i64],.ro)])],[]⟩)]
def Oi:E4:=fun i st=>cond (Nat.beq i 4) (lam Aec 5000000 Aed Gt st) <| cond (Nat.beq i 11) (lam Abe 12000000 Abf Ev st) <| .fail
theorem Am8 (cx:Cx) (hp:cx.pin.length≤0):Dw Tryz.prog cx Tryz.f193.ntmps Oi (A8 Tryz.f193 0):=F0 Abd hp (Dt (by kernel_rfl:Bi (A8 Tryz.f193 0)=[]) trivial) (by kernel_rfl) (fun d=>(by kernel_rfl:bod (D9 Oh) 0 Tryz.f193.ntmps Oi (A8 Tryz.f193 0) Aec 5000000 Aed d=Gt d))
theorem Amc (cx:Cx) (hp:cx.pin.length≤0):Dw Tryz.prog cx Tryz.f193.ntmps Oi (A8 Tryz.f193 1):=F0 Abd hp (Dt (by kernel_rfl:Bi (A8 Tryz.f193 1)=[]) trivial) (by kernel_rfl) (fun d=>(by kernel_rfl:bod (D9 Oh) 0 Tryz.f193.ntmps Oi (A8 Tryz.f193 1) Abe 12000000 Abf d=Ev d))
theorem Ag5:Fn Tryz.prog 193 .plain Abc:=Pn Abd Tryz.func193 (by kernel_rfl) (by kernel_rfl) (fun cx b hp hb=>Dt (by kernel_rfl:Bi (Tryz.f193.body.getD .skip)=[A8 Tryz.f193 0,A8 Tryz.f193 1]) ⟨Am8 cx hp,Amc cx hp,trivial⟩ b hb) (fun d=>(by kernel_rfl:Gw (D9 Oh) 0 Oi Tryz.f193 .plain (mkA [g_9] d)=(Ss d.1).run fun r=>some ([rv g_1 r],[])))
def Aee:Ax:=Aw [g_3] (fun d=>(T2 d.1).val) fun r=>([rv g_3 r],[])
theorem Am9:Fn Tryz.prog 245 .plain Aee:=mkF [] trivial Tryz.func245 0
def Ag6:Ax:=Aw [g_9,g_3] (fun d=>(Ws d.1 d.2.1).val) fun r=>([rv g_1 r],[])
theorem Ap3:Fn Tryz.prog 239 .plain Ag6:=mkF [(193,.plain,Abc),(56,.plain,Cc),(245,.plain,Aee),(220,.plain,Aba)] ⟨Ag5,B5,Am9,Ag4,trivial⟩ Tryz.func239 0
def Ag7:Ax:=Aw [g_9,g_3] (fun d=>(Wt d.1 d.2.1).val) fun r=>([rv g_9 r.1,rv g_1 r.2],[])
theorem Ap4:Fn Tryz.prog 235 .plain Ag7:=C8 [(194,.plain,Wr),(239,.plain,Ag6)] ⟨Aeb,Ap3,trivial⟩ ⟨[(1,.v false [(.int .i64,.nil)]),(2,.box 2 0),(4,.box 4 0),(6,.box 6 0),(7,.v false [(.int .i64,.nil)]),(8,.v false [(.int .i64,.nil)])],[(2,[(.int .i64,.nil),(.sl 3 [.int .i64],.ro)]),(4,[(.int .i64,.nil),(.sl 3 [.int .i64],(.own 7000000))]),(6,[(.int .i64,.nil),(.sl 3 [.int .i64],(.own 7000001))])],[7000000,7000001]⟩ 7000000 [((.exit 0),⟨[(1,.v false [(.int .i64,.nil)]),(2,.box 2 0),(4,.box 4 0),(6,.box 6 0)],[(2,[(.int .i64,.nil),(.sl 3 [.int .i64],.ro)]),(4,[(.int .i64,.nil),(.sl 3 [.int .i64],(.own 7000000))]),(6,[(.int .i64,.nil),(.sl 3 [.int .i64],(.own 7000001))])],[7000000,7000001]⟩)] 6 G3 Tryz.func235 0
def Akp:Ax:=Aw [g_6] (fun d=>(Abg d.1).val) fun r=>([rv g_9 r],[])
theorem Asf:Fn Tryz.prog 214 .plain Akp:=C8 [(216,.plain,Wm),(235,.plain,Ag7)] ⟨Ad9,Ap4,trivial⟩ ⟨[(0,.v false [(.sl 3 [.int .i64],.ro)]),(2,.box 2 0),(3,.box 3 0),(4,.v false [(.int .i64,.nil)])],[(2,[(.int .i64,.nil),(.sl 3 [.int .i64],(.own 4000000))]),(3,[(.int .i64,.nil),(.sl 3 [.int .i64],(.own 4000001))])],[4000000,4000001]⟩ 4000000 [((.exit 0),⟨[(2,.box 2 0),(3,.box 3 0)],[(2,[(.int .i64,.nil),(.sl 3 [.int .i64],(.own 4000000))]),(3,[(.int .i64,.nil),(.sl 3 [.int .i64],(.own 4000001))])],[4000000,4000001]⟩)] 3 Nt Tryz.func214 0
def Pq:Ax:=Aw [g_2] (fun d=>(Wu d.1).val) fun r=>([rv g_9 r.1],[rv g_2 r.2])
theorem T3:Fn Tryz.prog 183 (.box [3] true true) Pq:=mkF [(215,(.box [3] true true),Ag2),(214,.plain,Akp)] ⟨Ap2,Asf,trivial⟩ Tryz.func183 1
def T4:Ax:=Aw [g_2,g_3] (fun d=>(T5 d.1 d.2.1).val) fun r=>([rv Jw r.1],[rv g_2 r.2])
theorem Abh:Fn Tryz.prog 148 (.box [3] true true) T4:=mkF [(94,(.box [3] true true),Du),(180,.plain,Tz),(52,(.box [3] true true),Dp),(42,(.box [3] true true),Er),(183,(.box [3] true true),Pq),(128,.plain,Lp),(184,.plain,Sr)] ⟨Dv,Aa8,Dh,Es,T3,Ns,Wo,trivial⟩ Tryz.func148 1
def Nu:Ax:=Aw [Fs] (fun d=>(Nv d.1).val) fun r=>([rv g_1 r],[])
def Jy:Fns:=[(138,.plain,Pp),(56,.plain,Cc)]
theorem T6:CfgOk Tryz.prog (D9 Jy):=Gs No Jx (show Kl Tryz.prog Jy from⟨Tw,B5,trivial⟩)
def Z7:Sk:=⟨[(1,.box 1 0),(3,.v false [(.int .i64,.nil)])],[(1,[(.int .i64,.nil),(.int .i64,.nil),(.sl 169 h_4,.ro)])],[]⟩
def Z8:List (Ex×Sk):=[(.ret,⟨[(2,.v false [(.bool,.nil)])],[],[]⟩),((.exit 0),⟨[],[],[]⟩)]
def Vm:Sk:=⟨[(1,.box 1 0),(3,.v false [(.int .i64,.nil)]),(4,.box 4 0),(5,.v false [(.int .i64,.nil)])],[(1,[(.int .i64,.nil),(.int .i64,.nil),(.sl 169 h_4,.ro)]),(4,[(.int .i64,.nil),(.int .i64,.nil),(.sl 5 [.int .u8],.ro),(.int .i64,.nil)])],[]⟩
def Vn:List (Ex×Sk):=[(.ret,⟨[(2,.v false [(.bool,.nil)])],[],[]⟩),((.exit 2),⟨[(1,.box 1 0),(3,.v false [(.int .i64,.nil)])],[(1,[(.int .i64,.nil),(.int .i64,.nil),(.sl 169 h_4,.ro)])],[]⟩)]
def Jz:E4:=fun i st=>cond (Nat.beq i 10) (lam Vm 11000000 Vn Em st) <| cond (Nat.beq i 4) (lam Z7 5000000 Z8 F2 st) <| .fail
theorem Ag8 (cx:Cx) (hp:cx.pin.length≤0):Dw Tryz.prog cx Tryz.f108.ntmps Jz (A8 Tryz.f108 1):=F0 T6 hp (Dt (by kernel_rfl:Bi (A8 Tryz.f108 1)=[]) trivial) (by kernel_rfl) (fun d=>(by kernel_rfl:bod (D9 Jy) 0 Tryz.f108.ntmps Jz (A8 Tryz.f108 1) Vm 11000000 Vn d=Em d))
theorem Aja (cx:Cx) (hp:cx.pin.length≤0):Dw Tryz.prog cx Tryz.f108.ntmps Jz (A8 Tryz.f108 0):=F0 T6 hp (Dt (by kernel_rfl:Bi (A8 Tryz.f108 0)=[A8 Tryz.f108 1]) ⟨Ag8 cx hp,trivial⟩) (by kernel_rfl) (fun d=>(by kernel_rfl:bod (D9 Jy) 0 Tryz.f108.ntmps Jz (A8 Tryz.f108 0) Z7 5000000 Z8 d=F2 d))
theorem Qt:Fn Tryz.prog 108 .plain Nu:=Pn T6 Tryz.func108 (by kernel_rfl) (by kernel_rfl) (fun cx b hp hb=>Dt (by kernel_rfl:Bi (Tryz.f108.body.getD .skip)=[A8 Tryz.f108 0]) ⟨Aja cx hp,trivial⟩ b hb) (fun d=>(by kernel_rfl:Gw (D9 Jy) 0 Jz Tryz.f108 .plain (mkA [Fs] d)=(Nv d.1).run fun r=>some ([rv g_1 r],[])))
def T7:Ax:=Aw [Azh] (fun d=>(T8 d.1).val) fun r=>([rv Azh r],[])
theorem Abi:Fn Tryz.prog 161 .plain T7:=mkF [] trivial Tryz.func161 0
def Nw:Ax:=Aw [Fs] (fun d=>(T9 d.1).val) fun r=>([rv Fs r],[])
theorem Qu:Fn Tryz.prog 110 .plain Nw:=C8 [(161,.plain,T7)] ⟨Abi,trivial⟩ ⟨[(1,.box 1 0),(2,.box 2 0),(3,.box 3 0),(4,.v false [(.int .i64,.nil)])],[(1,[(.int .i64,.nil),(.int .i64,.nil),(.sl 169 h_4,.ro)]),(2,[(.int .i64,.nil),(.int .i64,.nil),(.sl 169 h_4,(.own 4000000))]),(3,[(.int .i64,.nil),(.int .i64,.nil),(.sl 169 h_4,(.own 4000001))])],[4000000,4000001]⟩ 4000000 [((.exit 0),⟨[(2,.box 2 0),(3,.box 3 0)],[(2,[(.int .i64,.nil),(.int .i64,.nil),(.sl 169 h_4,(.own 4000000))]),(3,[(.int .i64,.nil),(.int .i64,.nil),(.sl 169 h_4,(.own 4000001))])],[4000000,4000001]⟩)] 3 F3 Tryz.func110 0
def Abj:Ax:=Aw [Fs,g_3] (fun d=>(Qv d.1 d.2.1).val) fun r=>([rv Fs r],[])
theorem Amd:Fn Tryz.prog 217 .plain Abj:=C8 [(108,.plain,Nu),(56,.plain,Cc),(110,.plain,Nw),(161,.plain,T7)] ⟨Qt,B5,Qu,Abi,trivial⟩ ⟨[(1,.v false [(.int .i64,.nil)]),(2,.box 2 0),(4,.box 4 0),(5,.box 5 0),(6,.v false [(.int .i64,.nil)])],[(2,[(.int .i64,.nil),(.int .i64,.nil),(.sl 169 h_4,.ro)]),(4,[(.int .i64,.nil),(.int .i64,.nil),(.sl 169 h_4,(.own 6000000))]),(5,[(.int .i64,.nil),(.int .i64,.nil),(.sl 169 h_4,(.own 6000001))])],[6000000,6000001]⟩ 6000000 [((.exit 0),⟨[(4,.box 4 0),(5,.box 5 0)],[(4,[(.int .i64,.nil),(.int .i64,.nil),(.sl 169 h_4,(.own 6000000))]),(5,[(.int .i64,.nil),(.int .i64,.nil),(.sl 169 h_4,(.own 6000001))])],[6000000,6000001]⟩)] 5 Fm Tryz.func217 0
def Akq:Ax:=Aw [Fs,g_3,g_8,g_0] (fun d=>(Abk d.1 d.2.1 d.2.2.1 d.2.2.2.1).val) fun r=>([rv Fs r.1,rv g_1 r.2],[])
theorem Asg:Fn Tryz.prog 185 .plain Akq:=C8 [(108,.plain,Nu),(56,.plain,Cc),(138,.plain,Pp),(110,.plain,Nw),(217,.plain,Abj)] ⟨Qt,B5,Tw,Qu,Amd,trivial⟩ ⟨[(1,.v false [(.int .i64,.nil)]),(3,.v false [(.sl 5 [.int .u8],.ro)]),(4,.box 4 0),(6,.box 6 0),(8,.box 8 0),(10,.box 10 0),(11,.v false [(.int .i64,.nil)])],[(4,[(.int .i64,.nil),(.int .i64,.nil),(.sl 169 h_4,.ro)]),(6,[(.int .i64,.nil),(.int .i64,.nil)]),(8,[(.int .i64,.nil),(.int .i64,.nil),(.sl 169 h_4,(.own 6000000))]),(10,[(.int .i64,.nil),(.int .i64,.nil),(.sl 169 h_4,(.own 6000001))])],[6000000,6000001]⟩ 6000000 [(.ret,⟨[(8,.box 8 0),(9,.v false [(.bool,.nil)])],[(8,[(.int .i64,.nil),(.int .i64,.nil),(.sl 169 h_4,(.own 6000000))])],[6000000]⟩),((.exit 0),⟨[(1,.v false [(.int .i64,.nil)]),(3,.v false [(.sl 5 [.int .u8],.ro)]),(4,.box 4 0),(6,.box 6 0),(8,.box 8 0),(10,.box 10 0)],[(4,[(.int .i64,.nil),(.int .i64,.nil),(.sl 169 h_4,.ro)]),(6,[(.int .i64,.nil),(.int .i64,.nil)]),(8,[(.int .i64,.nil),(.int .i64,.nil),(.sl 169 h_4,(.own 6000000))]),(10,[(.int .i64,.nil),(.int .i64,.nil),(.sl 169 h_4,(.own 6000001))])],[6000000,6000001]⟩)] 5 H5 Tryz.func185 0
def Ua:Ax:=Aw [g_2] (fun d=>(Ub d.1).val) fun r=>([rv Fs r.1],[rv g_2 r.2])
theorem Abl:Fn Tryz.prog 149 (.box [3] true true) Ua:=C8 [(43,(.box [3] true true),B9),(105,.plain,Qp),(182,.plain,Qs),(94,(.box [3] true true),Du),(185,.plain,Akq)] ⟨B4,Sq,Z6,Dv,Asg,trivial⟩ ⟨[(0,.box 0 0),(2,.box 2 0),(3,.box 3 0),(4,.v false [(.int .i64,.nil)]),(5,.v false [(.int .i64,.nil)])],[(0,[(.sl 5 [.int .u8],(.pin 0)),(.int .i64,.nil),(.int .i64,.nil)]),(2,[(.int .i64,.nil),(.int .i64,.nil),(.sl 169 h_4,(.own 5000000))]),(3,[(.int .i64,.nil),(.int .i64,.nil),(.sl 169 h_4,(.own 5000001))])],[5000000,5000001]⟩ 5000000 [((.exit 0),⟨[(0,.box 0 0),(2,.box 2 0),(3,.box 3 0)],[(0,[(.sl 5 [.int .u8],(.pin 0)),(.int .i64,.nil),(.int .i64,.nil)]),(2,[(.int .i64,.nil),(.int .i64,.nil),(.sl 169 h_4,(.own 5000000))]),(3,[(.int .i64,.nil),(.int .i64,.nil),(.sl 169 h_4,(.own 5000001))])],[5000000,5000001]⟩)] 4 Pa Tryz.func149 1
def Nx:Ax:=Aw [g_2] (fun d=>(Uc d.1).val) fun r=>([rv Ft r.1],[rv g_2 r.2])
theorem Qw:Fn Tryz.prog 93 (.box [3] true false) Nx:=mkF [(94,(.box [3] true true),Du),(43,(.box [3] true true),B9),(146,(.box [3] true true),Z3),(145,.plain,Aa2),(52,(.box [3] true true),Dp),(105,.plain,Qp),(147,.plain,Aea),(42,(.box [3] true true),Er),(148,(.box [3] true true),T4),(149,(.box [3] true true),Ua)] ⟨Dv,B4,Ai1,Al9,Dh,Sq,Am7,Es,Abh,Abl,trivial⟩ Tryz.func93 1
def Wv:Ax:=Aw [Jv] (fun d=>(Ww d.1).val) fun r=>([rv Jv r],[])
theorem Aef:Fn Tryz.prog 159 .plain Wv:=mkF [(194,.plain,Wr)] ⟨Aeb,trivial⟩ Tryz.func159 0
def Akr:Ax:=Aw [Jv,g_1] (fun d=>(Abm d.1 d.2.1).val) fun r=>([rv Jv r],[])
theorem Ash:Fn Tryz.prog 160 .plain Akr:=mkF [(159,.plain,Wv)] ⟨Aef,trivial⟩ Tryz.func160 0
def Aeg:Ax:=Aw [Jw] (fun d=>(Ud d.1).val) fun r=>([rv Jw r],[])
theorem Ana:Fn Tryz.prog 109 .plain Aeg:=mkF [(159,.plain,Wv),(160,.plain,Akr)] ⟨Aef,Ash,trivial⟩ Tryz.func109 0
def J0:Ax:=Aw [Ft] (fun d=>(Ue d.1).val) fun r=>([rv Ft r],[])
theorem Lr:Fn Tryz.prog 51 .plain J0:=mkF [(109,.plain,Aeg),(110,.plain,Nw)] ⟨Ana,Qu,trivial⟩ Tryz.func51 0
def Uf:Ax:=Aw [g_4] (fun d=>(Ug d.1).val) fun r=>([rv g_4 r],[])
theorem Abn:Fn Tryz.prog 47 .plain Uf:=C8 [(51,.plain,J0)] ⟨Lr,trivial⟩ ⟨[(1,.box 1 0),(2,.box 2 0),(3,.box 3 0),(4,.v false [(.int .i64,.nil)])],[(1,[(.int .i64,.nil),(.sl 40 C5,.ro)]),(2,[(.int .i64,.nil),(.sl 40 C5,(.own 4000000))]),(3,[(.int .i64,.nil),(.sl 40 C5,(.own 4000001))])],[4000000,4000001]⟩ 4000000 [((.exit 0),⟨[(2,.box 2 0),(3,.box 3 0)],[(2,[(.int .i64,.nil),(.sl 40 C5,(.own 4000000))]),(3,[(.int .i64,.nil),(.sl 40 C5,(.own 4000001))])],[4000000,4000001]⟩)] 3 F4 Tryz.func47 0
def Afh:Ax:=Aw [g_4] (fun d=>(Afi d.1).val) fun r=>([rv g_3 r],[])
theorem Aks:Fn Tryz.prog 50 .plain Afh:=C8 [] trivial ⟨[(1,.box 1 0),(3,.v false [(.int .i64,.nil)]),(4,.v false [(.int .i64,.nil)])],[(1,[(.int .i64,.nil),(.sl 40 C5,.ro)])],[]⟩ 4000000 [((.exit 0),⟨[(3,.v false [(.int .i64,.nil)])],[],[]⟩)] 3 Ls Tryz.func50 0
def Uh:Ax:=Aw [Jv] (fun d=>(Ui d.1).val) fun r=>([rv g_1 r],[])
theorem Abo:Fn Tryz.prog 157 .plain Uh:=mkF [] trivial Tryz.func157 0
def Z9:Ax:=Aw [Jw] (fun d=>(Pb d.1).val) fun r=>([rv g_1 r],[])
theorem Ajb:Fn Tryz.prog 104 .plain Z9:=mkF [(157,.plain,Uh)] ⟨Abo,trivial⟩ Tryz.func104 0
def Anb:Ax:=Aw [Jv] (fun d=>(Afj d.1).val) fun r=>([rv g_1 r],[])
theorem Aui:Fn Tryz.prog 158 .plain Anb:=mkF [(56,.plain,Cc),(193,.plain,Abc)] ⟨B5,Ag5,trivial⟩ Tryz.func158 0
def Ag9:Ax:=Aw [Jw] (fun d=>(Wx d.1).val) fun r=>([rv g_1 r],[])
theorem Ap5:Fn Tryz.prog 106 .plain Ag9:=mkF [(56,.plain,Cc),(158,.plain,Anb),(157,.plain,Uh)] ⟨B5,Aui,Abo,trivial⟩ Tryz.func106 0
def Wy:Ax:=Aw [g_0,g_0] (fun d=>(Aha d.1 d.2.1).val) fun r=>([rv g_1 r],[])
theorem Aeh:Fn Tryz.prog 107 .plain Wy:=mkF [] trivial Tryz.func107 0
def Pr:Ax:=Aw [Ft] (fun d=>(Wz d.1).val) fun r=>([rv g_1 r],[])
theorem Uj:Fn Tryz.prog 48 .plain Pr:=mkF [(56,.plain,Cc),(104,.plain,Z9),(105,.plain,Qp),(106,.plain,Ag9),(107,.plain,Wy),(108,.plain,Nu)] ⟨B5,Ajb,Sq,Ap5,Aeh,Qt,trivial⟩ Tryz.func48 0
def W0:Ax:=Aw [g_4,g_0] (fun d=>(W1 d.1 d.2.1).val) fun r=>([rv g_3 r],[])
theorem Aei:Fn Tryz.prog 49 .plain W0:=C8 [(107,.plain,Wy)] ⟨Aeh,trivial⟩ ⟨[(1,.v false [(.sl 5 [.int .u8],.ro)]),(2,.box 2 0),(5,.v false [(.int .i64,.nil)])],[(2,[(.int .i64,.nil),(.sl 40 C5,.ro)])],[]⟩ 3000000 [(.ret,⟨[(4,.v false [(.int .i64,.nil)])],[],[]⟩),((.exit 0),⟨[],[],[]⟩)] 2 Im Tryz.func49 0
def Su:Ax:=Aw [g_4] (fun d=>(Abp d.1).val) fun r=>([rv g_1 r],[])
theorem W2:Fn Tryz.prog 16 .plain Su:=C8 [(56,.plain,Cc),(50,.plain,Afh),(48,.plain,Pr),(49,.plain,W0)] ⟨B5,Aks,Uj,Aei,trivial⟩ ⟨[(1,.box 1 0),(3,.v false [(.int .i64,.nil)])],[(1,[(.int .i64,.nil),(.sl 40 C5,.ro)])],[]⟩ 5000000 [(.ret,⟨[(2,.v false [(.bool,.nil)])],[],[]⟩),((.exit 0),⟨[],[],[]⟩)] 4 J1 Tryz.func16 0
def Uk:Ax:=Aw [g_4,Ft] (fun d=>(Ul d.1 d.2.1).val) fun r=>([rv g_4 r.1,rv g_3 r.2],[])
theorem Abq:Fn Tryz.prog 9 .plain Uk:=mkF [(47,.plain,Uf),(16,.plain,Su),(48,.plain,Pr),(49,.plain,W0),(50,.plain,Afh),(51,.plain,J0)] ⟨Abn,W2,Uj,Aei,Aks,Lr,trivial⟩ Tryz.func9 0
def Qx:Ax:=Aw [Ft] (fun d=>(Afk d.1).val) fun r=>([rv Ft r],[])
theorem Sv:Fn Tryz.prog 55 .plain Qx:=mkF [(48,.plain,Pr),(51,.plain,J0)] ⟨Uj,Lr,trivial⟩ Tryz.func55 0
def Aej:Ax:=Aw [g_2] (fun d=>(Um d.1).val) fun r=>([rv g_4 r.1],[rv g_2 r.2])
theorem Anc:Fn Tryz.prog 92 (.box [3] true true) Aej:=C8 [(43,(.box [3] true true),B9),(70,.plain,Agv),(93,(.box [3] true false),Nx),(9,.plain,Uk),(42,(.box [3] true true),Er),(55,.plain,Qx)] ⟨B4,Apx,Qw,Abq,Es,Sv,trivial⟩ ⟨[(0,.box 0 0),(2,.box 2 0),(3,.box 3 0),(4,.v false [(.int .i64,.nil)])],[(0,[(.sl 5 [.int .u8],(.pin 0)),(.int .i64,.nil),(.int .i64,.nil)]),(2,[(.int .i64,.nil),(.sl 40 C5,(.own 4000000))]),(3,[(.int .i64,.nil),(.sl 40 C5,(.own 4000001))])],[4000000,4000001]⟩ 4000000 [((.exit 0),⟨[(0,.box 0 0),(2,.box 2 0),(3,.box 3 0)],[(0,[(.sl 5 [.int .u8],(.pin 0)),(.int .i64,.nil),(.int .i64,.nil)]),(2,[(.int .i64,.nil),(.sl 40 C5,(.own 4000000))]),(3,[(.int .i64,.nil),(.sl 40 C5,(.own 4000001))])],[4000000,4000001]⟩)] 3 Km Tryz.func92 1
def Ane:Ax:=Aw [g_2] (fun d=>(Afl d.1).val) fun r=>([rv Jv r.1],[rv g_2 r.2])
theorem Auj:Fn Tryz.prog 186 (.box [3] true true) Ane:=mkF [(52,(.box [3] true true),Dp),(94,(.box [3] true true),Du),(184,.plain,Sr),(42,(.box [3] true true),Er),(183,(.box [3] true true),Pq)] ⟨Dh,Dv,Wo,Es,T3,trivial⟩ Tryz.func186 1
def Akt:Ax:=Aw [g_2] (fun d=>(Abr d.1).val) fun r=>([rv g_9 r.1],[rv g_2 r.2])
theorem Asi:Fn Tryz.prog 187 (.box [3] true true) Akt:=mkF [(183,(.box [3] true true),Pq),(43,(.box [3] true true),B9),(52,(.box [3] true true),Dp)] ⟨T3,B4,Dh,trivial⟩ Tryz.func187 1
def Aku:Ax:=Aw [g_2] (fun d=>(Abs d.1).val) fun r=>([rv Jv r.1],[rv g_2 r.2])
theorem Asj:Fn Tryz.prog 150 (.box [3] true true) Aku:=mkF [(186,(.box [3] true true),Ane),(43,(.box [3] true true),B9),(52,(.box [3] true true),Dp),(94,(.box [3] true true),Du),(187,(.box [3] true true),Akt)] ⟨Auj,B4,Dh,Dv,Asi,trivial⟩ Tryz.func150 1
def Ahb:Ax:=Aw [g_2] (fun d=>(W3 d.1).val) fun r=>([rv Jw r.1],[rv g_2 r.2])
theorem Ap6:Fn Tryz.prog 95 (.box [3] true true) Ahb:=mkF [(43,(.box [3] true true),B9),(148,(.box [3] true true),T4),(52,(.box [3] true true),Dp),(94,(.box [3] true true),Du),(150,(.box [3] true true),Aku)] ⟨B4,Abh,Dh,Dv,Asj,trivial⟩ Tryz.func95 1
def Ahc:Ax:=Aw [g_2] (fun d=>(W4 d.1).val) fun r=>([rv g_8 r.1],[rv g_2 r.2])
theorem Ap7:Fn Tryz.prog 188 (.box [3] true true) Ahc:=mkF [(42,(.box [3] true true),Er),(43,(.box [3] true true),B9),(97,(.box [3] true true),Po),(105,.plain,Qp)] ⟨Es,B4,Tp,Sq,trivial⟩ Tryz.func188 1
def Akv:Ax:=Aw [g_2] (fun d=>(Abt d.1).val) fun r=>([rv g_3 r.1],[rv g_2 r.2])
theorem Ask:Fn Tryz.prog 189 (.box [3] true true) Akv:=mkF [(52,(.box [3] true true),Dp)] ⟨Dh,trivial⟩ Tryz.func189 1
def Akw:Ax:=Aw [g_2] (fun d=>(Abu d.1).val) fun r=>([rv g_8 r.1],[rv g_2 r.2])
theorem Asl:Fn Tryz.prog 151 (.box [3] true true) Akw:=mkF [(188,(.box [3] true true),Ahc),(43,(.box [3] true true),B9),(189,(.box [3] true true),Akv),(52,(.box [3] true true),Dp)] ⟨Ap7,B4,Ask,Dh,trivial⟩ Tryz.func151 1
def Ahd:Ax:=Aw [g_2] (fun d=>(W5 d.1).val) fun r=>([rv Fs r.1],[rv g_2 r.2])
theorem Ap8:Fn Tryz.prog 96 (.box [3] true true) Ahd:=mkF [(149,(.box [3] true true),Ua),(42,(.box [3] true true),Er),(43,(.box [3] true true),B9),(151,(.box [3] true true),Akw),(94,(.box [3] true true),Du),(52,(.box [3] true true),Dp)] ⟨Abl,Es,B4,Asl,Dv,Dh,trivial⟩ Tryz.func96 1
def Ps:Ax:=Aw [g_2] (fun d=>(W6 d.1).val) fun r=>([rv Ft r.1],[rv g_2 r.2])
theorem Un:Fn Tryz.prog 41 (.box [3] true false) Ps:=mkF [(93,(.box [3] true false),Nx),(43,(.box [3] true true),B9),(52,(.box [3] true true),Dp),(94,(.box [3] true true),Du),(95,(.box [3] true true),Ahb),(96,(.box [3] true true),Ahd),(55,.plain,Qx)] ⟨Qw,B4,Dh,Dv,Ap6,Ap8,Sv,trivial⟩ Tryz.func41 1
def Pt:Ax:=Aw [g_2] (fun d=>(Pu d.1).val) fun r=>([rv g_4 r.1],[rv g_2 r.2])
def Pv:Fns:=[(92,(.box [3] true true),Aej),(43,(.box [3] true true),B9),(52,(.box [3] true true),Dp),(41,(.box [3] true false),Ps),(93,(.box [3] true false),Nx),(55,.plain,Qx),(94,(.box [3] true true),Du)]
theorem Ahe:CfgOk Tryz.prog (D9 Pv):=Gs No Jx (show Kl Tryz.prog Pv from⟨Anc,B4,Dh,Un,Qw,Sv,Dv,trivial⟩)
def Aaa:Sk:=⟨[(0,.box 0 0),(2,.box 2 0),(3,.box 3 0),(4,.box 4 0),(5,.v false [(.int .i64,.nil)])],[(0,[(.sl 5 [.int .u8],(.pin 0)),(.int .i64,.nil),(.int .i64,.nil)]),(2,[(.int .i64,.nil),(.sl 40 C5,(.own 14000000))]),(3,[(.int .i64,.nil),(.sl 40 C5,(.row 14000001))]),(4,[(.int .i64,.nil),(.sl 5 [.int .u8],.rd),(.sl 5 [.int .u8],.rd),(.int .i64,.nil),(.sl 5 [.int .u8],.rd),(.int .i64,.nil),(.sl 5 [.int .u8],.rd),(.int .i64,.nil),(.int .i64,.nil),(.sl 3 [.int .i64],.rd),(.int .i64,.nil),(.sl 5 [.int .u8],.rd),(.int .i64,.nil),(.int .i64,.nil),(.sl 3 [.int .i64],.rd),(.bool,.nil),(.int .i64,.nil),(.sl 5 [.int .u8],.rd),(.int .i64,.nil),(.int .i64,.nil),(.sl 169 h_4,.rd),(.int .i64,.nil),(.int .i64,.nil),(.bool,.nil)])],[14000000,14000001]⟩
def Aab:List (Ex×Sk):=[((.exit 1),⟨[(0,.box 0 0),(2,.box 2 0),(3,.box 3 0)],[(0,[(.sl 5 [.int .u8],(.pin 0)),(.int .i64,.nil),(.int .i64,.nil)]),(2,[(.int .i64,.nil),(.sl 40 C5,(.own 14000000))]),(3,[(.int .i64,.nil),(.sl 40 C5,(.row 14000001))])],[14000000,14000001]⟩)]
def W7:E4:=fun i st=>cond (Nat.beq i 13) (lam Aaa 14000000 Aab Kn st) <| .fail
theorem Ajc (cx:Cx) (hp:cx.pin.length≤1):Dw Tryz.prog cx Tryz.f40.ntmps W7 (A8 Tryz.f40 0):=F0 Ahe hp (Dt (by kernel_rfl:Bi (A8 Tryz.f40 0)=[]) trivial) (by kernel_rfl) (fun d=>(by kernel_rfl:bod (D9 Pv) 1 Tryz.f40.ntmps W7 (A8 Tryz.f40 0) Aaa 14000000 Aab d=Kn d))
theorem Uo:Fn Tryz.prog 40 (.box [3] true false) Pt:=Pn Ahe Tryz.func40 (by kernel_rfl) (by kernel_rfl) (fun cx b hp hb=>Dt (by kernel_rfl:Bi (Tryz.f40.body.getD .skip)=[A8 Tryz.f40 0]) ⟨Ajc cx hp,trivial⟩ b hb) (fun d=>(by kernel_rfl:Gw (D9 Pv) 1 W7 Tryz.f40 (.box [3] true false) (mkA [g_2] d)=(Pu d.1).run fun r=>some ([rv g_4 r.1],[rv g_2 r.2])))
def Sw:Ax:=Aw [g_0] (fun d=>(Lu d.1).val) fun r=>([rv g_4 r.1,rv Ft r.2],[])
theorem Afm:Fn Tryz.prog 7 .view Sw:=mkF [(39,.ret,Si),(40,(.box [3] true false),Pt),(41,(.box [3] true false),Ps),(42,(.box [3] true true),Er),(43,(.box [3] true true),B9)] ⟨V8,Uo,Un,Es,B4,trivial⟩ Tryz.func7 0
def K8:Ax:=Aw [g_0] (fun d=>(Abv d.1).val) fun r=>([rv g_0 r],[])
theorem Lv:Fn Tryz.prog 65 .plain K8:=mkF [] trivial Tryz.func65 0
def Aek:Ax:=Aw [g_9] (fun d=>(Up d.1).val) fun r=>([rv g_9 r],[])
theorem Anf:Fn Tryz.prog 192 .plain Aek:=mkF [] trivial Tryz.func192 0
def Ahf:Ax:=Aw [Jv] (fun d=>(W8 d.1).val) fun r=>([rv Jv r],[])
theorem Ap9:Fn Tryz.prog 156 .plain Ahf:=mkF [(65,.plain,K8),(192,.plain,Aek)] ⟨Lv,Anf,trivial⟩ Tryz.func156 0
def Qy:Ax:=Aw [Jw] (fun d=>(Qz d.1).val) fun r=>([rv Jw r],[])
theorem Aac:Fn Tryz.prog 102 .plain Qy:=mkF [(65,.plain,K8),(156,.plain,Ahf)] ⟨Lv,Ap9,trivial⟩ Tryz.func102 0
def Ko:Ax:=Aw [Fs] (fun d=>(Pc d.1).val) fun r=>([rv Fs r],[])
theorem M9:Fn Tryz.prog 103 .plain Ko:=C8 [(65,.plain,K8)] ⟨Lv,trivial⟩ ⟨[(2,.box 2 0),(3,.box 3 0),(10,.v false [(.sl 169 h_4,.ro)]),(11,.v false [(.int .i64,.nil)]),(12,.v false [(.int .i64,.nil)])],[(2,[(.int .i64,.nil),(.int .i64,.nil),(.sl 169 h_4,(.own 4000000))]),(3,[(.int .i64,.nil),(.int .i64,.nil),(.sl 169 h_4,(.own 4000001))])],[4000000,4000001]⟩ 4000000 [((.exit 0),⟨[(2,.box 2 0),(3,.box 3 0)],[(2,[(.int .i64,.nil),(.int .i64,.nil),(.sl 169 h_4,(.own 4000000))]),(3,[(.int .i64,.nil),(.int .i64,.nil),(.sl 169 h_4,(.own 4000001))])],[4000000,4000001]⟩)] 3 E6 Tryz.func103 0
def G4:Ax:=Aw [Ft] (fun d=>(Q0 d.1).val) fun r=>([rv Ft r],[])
theorem Hz:Fn Tryz.prog 46 .plain G4:=mkF [(65,.plain,K8),(102,.plain,Qy),(103,.plain,Ko)] ⟨Lv,Aac,M9,trivial⟩ Tryz.func46 0
def Ny:Ax:=Aw [g_4] (fun d=>(Uq d.1).val) fun r=>([rv g_4 r],[])
theorem Q1:Fn Tryz.prog 44 .plain Ny:=C8 [(46,.plain,G4)] ⟨Hz,trivial⟩ ⟨[(2,.box 2 0),(3,.box 3 0),(10,.v false [(.sl 40 C5,.ro)]),(11,.v false [(.int .i64,.nil)]),(12,.v false [(.int .i64,.nil)])],[(2,[(.int .i64,.nil),(.sl 40 C5,(.own 4000000))]),(3,[(.int .i64,.nil),(.sl 40 C5,(.own 4000001))])],[4000000,4000001]⟩ 4000000 [((.exit 0),⟨[(2,.box 2 0),(3,.box 3 0)],[(2,[(.int .i64,.nil),(.sl 40 C5,(.own 4000000))]),(3,[(.int .i64,.nil),(.sl 40 C5,(.own 4000001))])],[4000000,4000001]⟩)] 3 F5 Tryz.func44 0
def Di:Ax:=Aw [g_3,g_3,g_3] (fun d=>(W9 d.1 d.2.1 d.2.2.1).val) fun r=>([rv g_1 r],[])
theorem Dg:Fn Tryz.prog 53 .plain Di:=mkF [] trivial Tryz.func53 0
def Xa:Ax:=Aw [g_4] (fun d=>(Xb d.1).val) fun r=>([rv g_3 r],[])
theorem Abw:Fn Tryz.prog 18 .plain Xa:=C8 [] trivial ⟨[(3,.v false [(.int .i64,.nil)]),(7,.v false [(.sl 40 C5,.ro)]),(8,.v false [(.int .i64,.nil)]),(9,.v false [(.int .i64,.nil)])],[],[]⟩ 4000000 [((.exit 0),⟨[(3,.v false [(.int .i64,.nil)])],[],[]⟩)] 3 Ff Tryz.func18 0
def Nz:Ax:=Aw [g_0] (fun d=>(Ael d.1).val) fun r=>([rv g_1 r],[])
theorem Q2:Fn Tryz.prog 98 .plain Nz:=mkF [] trivial Tryz.func98 0
def Kp:Ax:=Aw [g_0,g_0] (fun d=>(Aad d.1 d.2.1).val) fun r=>([rv g_1 r],[])
theorem Na:Fn Tryz.prog 58 .plain Kp:=mkF [] trivial Tryz.func58 0
def Abx:Ax:=Aw [g_6,g_6] (fun d=>(Q3 d.1 d.2.1).val) fun r=>([rv g_1 r],[])
theorem Ame:Fn Tryz.prog 190 .plain Abx:=C8 [] trivial ⟨[(1,.v false [(.sl 3 [.int .i64],.ro)]),(12,.v false [(.sl 3 [.int .i64],.ro)]),(13,.v false [(.int .i64,.nil)]),(14,.v false [(.int .i64,.nil)])],[],[]⟩ 5000000 [(.ret,⟨[(4,.v false [(.bool,.nil)])],[],[]⟩),((.exit 0),⟨[],[],[]⟩)] 4 Vo Tryz.func190 0
def Xc:Ax:=Aw [Jv,Jv] (fun d=>(Xd d.1 d.2.1).val) fun r=>([rv g_1 r],[])
theorem Aem:Fn Tryz.prog 152 .plain Xc:=mkF [(58,.plain,Kp),(190,.plain,Abx)] ⟨Na,Ame,trivial⟩ Tryz.func152 0
def Vp:Ax:=Aw [Jw] (fun d=>(Nb d.1).val) fun r=>([rv g_1 r],[])
theorem Ahg:Fn Tryz.prog 99 .plain Vp:=mkF [(152,.plain,Xc)] ⟨Aem,trivial⟩ Tryz.func99 0
def Ahh:Ax:=Aw [g_3] (fun d=>(Xe d.1).val) fun r=>([rv g_1 r],[])
theorem Aqa:Fn Tryz.prog 153 .plain Ahh:=mkF [] trivial Tryz.func153 0
def Aby:Ax:=Aw [g_6,g_3] (fun d=>(Q4 d.1 d.2.1).val) fun r=>([rv g_1 r],[])
theorem Amf:Fn Tryz.prog 218 .plain Aby:=C8 [(53,.plain,Di)] ⟨Dg,trivial⟩ ⟨[(0,.v false [(.sl 3 [.int .i64],.ro)]),(1,.v false [(.int .i64,.nil)]),(7,.v false [(.sl 3 [.int .i64],.ro)]),(8,.v false [(.int .i64,.nil)]),(9,.v false [(.int .i64,.nil)])],[],[]⟩ 3000000 [(.ret,⟨[(4,.v false [(.bool,.nil)])],[],[]⟩),((.exit 0),⟨[(0,.v false [(.sl 3 [.int .i64],.ro)]),(1,.v false [(.int .i64,.nil)])],[],[]⟩)] 2 G5 Tryz.func218 0
def Ahi:Ax:=Aw [g_9,g_3] (fun d=>(Xf d.1 d.2.1).val) fun r=>([rv g_1 r],[])
theorem Aqb:Fn Tryz.prog 219 .plain Ahi:=mkF [] trivial Tryz.func219 0
def Akx:Ax:=Aw [g_9] (fun d=>(Abz d.1).val) fun r=>([rv g_1 r],[])
theorem Asm:Fn Tryz.prog 191 .plain Akx:=C8 [(53,.plain,Di),(218,.plain,Aby),(219,.plain,Ahi)] ⟨Dg,Amf,Aqb,trivial⟩ ⟨[(1,.box 1 0),(3,.v false [(.int .i64,.nil)])],[(1,[(.int .i64,.nil),(.sl 3 [.int .i64],.ro)])],[]⟩ 5000000 [(.ret,⟨[(2,.v false [(.bool,.nil)])],[],[]⟩),((.exit 0),⟨[(1,.box 1 0)],[(1,[(.int .i64,.nil),(.sl 3 [.int .i64],.ro)])],[]⟩)] 4 H6 Tryz.func191 0
def Afn:Ax:=Aw [Jv] (fun d=>(Afo d.1).val) fun r=>([rv g_1 r],[])
theorem Aky:Fn Tryz.prog 154 .plain Afn:=mkF [(53,.plain,Di),(191,.plain,Akx)] ⟨Dg,Asm,trivial⟩ Tryz.func154 0
def Akz:Ax:=Aw [Jw] (fun d=>(Ab0 d.1).val) fun r=>([rv g_1 r],[])
theorem Asn:Fn Tryz.prog 155 .plain Akz:=mkF [(152,.plain,Xc),(154,.plain,Afn),(53,.plain,Di)] ⟨Aem,Aky,Dg,trivial⟩ Tryz.func155 0
def Xg:Ax:=Aw [Jw] (fun d=>(Xh d.1).val) fun r=>([rv g_1 r],[])
theorem Aen:Fn Tryz.prog 100 .plain Xg:=mkF [(153,.plain,Ahh),(98,.plain,Nz),(154,.plain,Afn),(155,.plain,Akz)] ⟨Aqa,Q2,Aky,Asn,trivial⟩ Tryz.func100 0
def Ahj:Ax:=Aw [g_8] (fun d=>(Xi d.1).val) fun r=>([rv g_1 r],[])
theorem Aqc:Fn Tryz.prog 80 .plain Ahj:=mkF [(53,.plain,Di)] ⟨Dg,trivial⟩ Tryz.func80 0
def Ur:Ax:=Aw [Fs] (fun d=>(N0 d.1).val) fun r=>([rv g_1 r],[])
def J2:Fns:=[(80,.plain,Ahj),(98,.plain,Nz),(53,.plain,Di)]
theorem Us:CfgOk Tryz.prog (D9 J2):=Gs No Jx (show Kl Tryz.prog J2 from⟨Aqc,Q2,Dg,trivial⟩)
def Aae:Sk:=⟨[(1,.box 1 0),(18,.v false [(.sl 169 h_4,.ro)]),(19,.v false [(.int .i64,.nil)]),(20,.v false [(.int .i64,.nil)])],[(1,[(.int .i64,.nil),(.int .i64,.nil),(.sl 169 h_4,.ro)])],[]⟩
def Aaf:List (Ex×Sk):=[(.ret,⟨[(2,.v false [(.bool,.nil)])],[],[]⟩),((.exit 0),⟨[],[],[]⟩)]
def Aag:Sk:=⟨[(1,.box 1 0),(4,.box 4 0),(18,.v false [(.sl 169 h_4,.ro)]),(19,.v false [(.int .i64,.nil)]),(20,.v false [(.int .i64,.nil)]),(51,.v false [(.sl 169 h_4,.ro)]),(52,.v false [(.int .i64,.nil)]),(53,.v false [(.int .i64,.nil)])],[(1,[(.int .i64,.nil),(.int .i64,.nil),(.sl 169 h_4,.ro)]),(4,[(.int .i64,.nil),(.int .i64,.nil),(.sl 5 [.int .u8],.ro),(.int .i64,.nil)])],[]⟩
def Aah:List (Ex×Sk):=[(.ret,⟨[(2,.v false [(.bool,.nil)])],[],[]⟩),((.exit 2),⟨[(1,.box 1 0),(18,.v false [(.sl 169 h_4,.ro)]),(19,.v false [(.int .i64,.nil)]),(20,.v false [(.int .i64,.nil)])],[(1,[(.int .i64,.nil),(.int .i64,.nil),(.sl 169 h_4,.ro)])],[]⟩)]
def J3:E4:=fun i st=>cond (Nat.beq i 9) (lam Aag 10000000 Aah Fb st) <| cond (Nat.beq i 4) (lam Aae 5000000 Aaf F6 st) <| .fail
theorem Ajd (cx:Cx) (hp:cx.pin.length≤0):Dw Tryz.prog cx Tryz.f101.ntmps J3 (A8 Tryz.f101 1):=F0 Us hp (Dt (by kernel_rfl:Bi (A8 Tryz.f101 1)=[]) trivial) (by kernel_rfl) (fun d=>(by kernel_rfl:bod (D9 J2) 0 Tryz.f101.ntmps J3 (A8 Tryz.f101 1) Aag 10000000 Aah d=Fb d))
theorem Aje (cx:Cx) (hp:cx.pin.length≤0):Dw Tryz.prog cx Tryz.f101.ntmps J3 (A8 Tryz.f101 0):=F0 Us hp (Dt (by kernel_rfl:Bi (A8 Tryz.f101 0)=[A8 Tryz.f101 1]) ⟨Ajd cx hp,trivial⟩) (by kernel_rfl) (fun d=>(by kernel_rfl:bod (D9 J2) 0 Tryz.f101.ntmps J3 (A8 Tryz.f101 0) Aae 5000000 Aaf d=F6 d))
theorem Ab1:Fn Tryz.prog 101 .plain Ur:=Pn Us Tryz.func101 (by kernel_rfl) (by kernel_rfl) (fun cx b hp hb=>Dt (by kernel_rfl:Bi (Tryz.f101.body.getD .skip)=[A8 Tryz.f101 0]) ⟨Aje cx hp,trivial⟩ b hb) (fun d=>(by kernel_rfl:Gw (D9 J2) 0 J3 Tryz.f101 .plain (mkA [Fs] d)=(N0 d.1).run fun r=>some ([rv g_1 r],[])))
def Lw:Ax:=Aw [Ft] (fun d=>(Xj d.1).val) fun r=>([rv g_1 r],[])
theorem N3:Fn Tryz.prog 45 .plain Lw:=mkF [(53,.plain,Di),(98,.plain,Nz),(99,.plain,Vp),(100,.plain,Xg),(58,.plain,Kp),(101,.plain,Ur)] ⟨Dg,Q2,Ahg,Aen,Na,Ab1,trivial⟩ Tryz.func45 0
def Pw:Ax:=Aw [g_4,g_0] (fun d=>(Xk d.1 d.2.1).val) fun r=>([rv g_3 r],[])
theorem Ut:Fn Tryz.prog 19 .plain Pw:=C8 [(58,.plain,Kp)] ⟨Na,trivial⟩ ⟨[(1,.v false [(.sl 5 [.int .u8],.ro)]),(8,.v false [(.sl 40 C5,.ro)]),(9,.v false [(.int .i64,.nil)]),(10,.v false [(.int .i64,.nil)])],[],[]⟩ 3000000 [(.ret,⟨[(4,.v false [(.int .i64,.nil)])],[],[]⟩),((.exit 0),⟨[],[],[]⟩)] 2 Ip Tryz.func19 0
def Oj:Ax:=Aw [g_4] (fun d=>(Ab2 d.1).val) fun r=>([rv g_1 r],[])
theorem Px:Fn Tryz.prog 15 .plain Oj:=C8 [(53,.plain,Di),(18,.plain,Xa),(45,.plain,Lw),(19,.plain,Pw)] ⟨Dg,Abw,N3,Ut,trivial⟩ ⟨[(1,.box 1 0),(23,.v false [(.sl 40 C5,.ro)]),(24,.v false [(.int .i64,.nil)]),(25,.v false [(.int .i64,.nil)])],[(1,[(.int .i64,.nil),(.sl 40 C5,.ro)])],[]⟩ 5000000 [(.ret,⟨[(2,.v false [(.bool,.nil)])],[],[]⟩),((.exit 0),⟨[],[],[]⟩)] 4 J4 Tryz.func15 0
def Aeo:Ax:=Aw [g_4,Ft] (fun d=>(N4 d.1 d.2.1).val) fun r=>([rv g_4 r.1,rv g_3 r.2],[])
theorem Ang:Fn Tryz.prog 8 .plain Aeo:=mkF [(44,.plain,Ny),(15,.plain,Oj),(45,.plain,Lw),(19,.plain,Pw),(18,.plain,Xa),(46,.plain,G4)] ⟨Q1,Px,N3,Ut,Abw,Hz,trivial⟩ Tryz.func8 0
def Sx:Ax:=Aw [g_0] (fun d=>(Lx d.1).val) fun r=>([rv g_4 r.1,rv g_3 r.2],[])
theorem Afp:Fn Tryz.prog 10 .view Sx:=mkF [(39,.ret,Si),(40,(.box [3] true false),Pt),(52,(.box [3] true true),Dp)] ⟨V8,Uo,Dh,trivial⟩ Tryz.func10 0
def Anh:Ax:=Aw [Ft] (fun d=>(Afq d.1).val) fun r=>([rv Ft r],[])
theorem Auk:Fn Tryz.prog 87 .plain Anh:=mkF [(45,.plain,Lw),(46,.plain,G4),(65,.plain,K8)] ⟨N3,Hz,Lv,trivial⟩ Tryz.func87 0
def Ab3:Ax:=Aw [Jw,g_3] (fun d=>(Q5 d.1 d.2.1).val) fun r=>([rv Jw r],[])
theorem Amg:Fn Tryz.prog 111 .plain Ab3:=mkF [(102,.plain,Qy),(100,.plain,Xg),(53,.plain,Di)] ⟨Aac,Aen,Dg,trivial⟩ Tryz.func111 0
def Ok:Ax:=Aw [Fs,g_3] (fun d=>(Gd d.1 d.2.1).val) fun r=>([rv Fs r],[])
def Ge:Fns:=[(103,.plain,Ko)]
theorem Ol:CfgOk Tryz.prog (D9 Ge):=Gs No Jx (show Kl Tryz.prog Ge from⟨M9,trivial⟩)
def Ly:Sk:=⟨[(1,.v false [(.int .i64,.nil)]),(4,.box 4 0),(5,.box 5 0),(13,.v false [(.sl 169 h_4,(.own 4000000))]),(14,.v false [(.int .i64,.nil)]),(15,.v false [(.int .i64,.nil)])],[(4,[(.int .i64,.nil),(.int .i64,.nil),(.sl 169 h_4,(.own 4000001))]),(5,[(.int .i64,.nil),(.int .i64,.nil),(.sl 169 h_4,(.own 4000002))])],[4000000,4000001,4000002]⟩
def Lz:List (Ex×Sk):=[((.exit 0),⟨[(4,.box 4 0),(5,.box 5 0)],[(4,[(.int .i64,.nil),(.int .i64,.nil),(.sl 169 h_4,(.own 4000000))]),(5,[(.int .i64,.nil),(.int .i64,.nil),(.sl 169 h_4,(.own 4000001))])],[4000000,4000001]⟩)]
def Iq:E4:=fun i st=>cond (Nat.beq i 3) (lam Ly 4000000 Lz C0 st) <| .fail
theorem Vq (cx:Cx) (hp:cx.pin.length≤0):Dw Tryz.prog cx Tryz.f162.ntmps Iq (A8 Tryz.f162 0):=Awg Ol hp (Dt (by kernel_rfl:Bi (A8 Tryz.f162 0)=[]) trivial) 13 15 4500000 (by kernel_rfl) (by kernel_rfl) (fun d=>(by kernel_rfl:Awh (D9 Ge) 0 Tryz.f162.ntmps Iq (A8 Tryz.f162 0) Ly 4000000 Lz 13 15 4500000 d=C0 d))
theorem Aap:Fn Tryz.prog 162 .plain Ok:=Pn Ol Tryz.func162 (by kernel_rfl) (by kernel_rfl) (fun cx b hp hb=>Dt (by kernel_rfl:Bi (Tryz.f162.body.getD .skip)=[A8 Tryz.f162 0]) ⟨Vq cx hp,trivial⟩ b hb) (fun d=>(by kernel_rfl:Gw (D9 Ge) 0 Iq Tryz.f162 .plain (mkA [Fs,g_3] d)=(Gd d.1 d.2.1).run fun r=>some ([rv Fs r],[])))
def Ab4:Ax:=Aw [Fs,g_3] (fun d=>(Q6 d.1 d.2.1).val) fun r=>([rv Fs r],[])
theorem Amh:Fn Tryz.prog 112 .plain Ab4:=mkF [(101,.plain,Ur),(53,.plain,Di),(103,.plain,Ko),(162,.plain,Ok)] ⟨Ab1,Dg,M9,Aap,trivial⟩ Tryz.func112 0
def Ab5:Ax:=Aw [Ft,g_3] (fun d=>(Q7 d.1 d.2.1).val) fun r=>([rv Ft r],[])
theorem Ami:Fn Tryz.prog 54 .plain Ab5:=mkF [(46,.plain,G4),(45,.plain,Lw),(53,.plain,Di),(87,.plain,Anh),(111,.plain,Ab3),(112,.plain,Ab4)] ⟨Hz,N3,Dg,Auk,Amg,Amh,trivial⟩ Tryz.func54 0
def Aep:Ax:=Aw [g_4,g_3] (fun d=>(Uu d.1 d.2.1).val) fun r=>([rv g_4 r],[])
theorem Ani:Fn Tryz.prog 11 .plain Aep:=C8 [(15,.plain,Oj),(53,.plain,Di),(44,.plain,Ny),(54,.plain,Ab5)] ⟨Px,Dg,Q1,Ami,trivial⟩ ⟨[(1,.v false [(.int .i64,.nil)]),(4,.box 4 0),(5,.box 5 0),(22,.v false [(.sl 40 C5,.ro)]),(23,.v false [(.int .i64,.nil)]),(24,.v false [(.int .i64,.nil)])],[(4,[(.int .i64,.nil),(.sl 40 C5,(.own 6000000))]),(5,[(.int .i64,.nil),(.sl 40 C5,(.own 6000001))])],[6000000,6000001]⟩ 6000000 [((.exit 0),⟨[(4,.box 4 0),(5,.box 5 0)],[(4,[(.int .i64,.nil),(.sl 40 C5,(.own 6000000))]),(5,[(.int .i64,.nil),(.sl 40 C5,(.own 6000001))])],[6000000,6000001]⟩)] 5 F7 Tryz.func11 0
def Sy:Ax:=Aw [g_0] (fun d=>(L0 d.1).val) fun r=>([rv g_4 r.1,rv g_3 r.2.1,rv Ft r.2.2],[])
theorem Afr:Fn Tryz.prog 12 .view Sy:=mkF [(39,.ret,Si),(40,(.box [3] true false),Pt),(43,(.box [3] true true),B9),(41,(.box [3] true false),Ps),(42,(.box [3] true true),Er),(55,.plain,Qx)] ⟨V8,Uo,B4,Un,Es,Sv,trivial⟩ Tryz.func12 0
def Aeq:Ax:=Aw [g_4,g_3,Ft] (fun d=>(N5 d.1 d.2.1 d.2.2.1).val) fun r=>([rv g_4 r.1,rv g_1 r.2],[])
theorem Anj:Fn Tryz.prog 13 .plain Aeq:=mkF [(44,.plain,Ny),(15,.plain,Oj),(46,.plain,G4)] ⟨Q1,Px,Hz,trivial⟩ Tryz.func13 0
def Aer:Ax:=Aw [g_4,g_3,Ft] (fun d=>(Uv d.1 d.2.1 d.2.2.1).val) fun r=>([rv g_4 r.1,rv g_1 r.2],[])
theorem Ank:Fn Tryz.prog 14 .plain Aer:=mkF [(47,.plain,Uf),(16,.plain,Su),(56,.plain,Cc),(51,.plain,J0)] ⟨Abn,W2,B5,Lr,trivial⟩ Tryz.func14 0
def Q8:Ax:=Aw [g_0,g_0] (fun d=>(Afs d.1 d.2.1).val) fun r=>([rv g_1 r],[])
theorem Sz:Fn Tryz.prog 30 .plain Q8:=mkF [] trivial Tryz.func30 0
def Ab6:Ax:=Aw [g_6,g_6] (fun d=>(Q9 d.1 d.2.1).val) fun r=>([rv g_1 r],[])
theorem Amj:Fn Tryz.prog 221 .plain Ab6:=C8 [] trivial ⟨[(0,.v false [(.sl 3 [.int .i64],.ro)]),(1,.v false [(.sl 3 [.int .i64],.ro)]),(5,.v false [(.int .i64,.nil)])],[],[]⟩ 5000000 [(.ret,⟨[(4,.v false [(.bool,.nil)])],[],[]⟩),((.exit 0),⟨[],[],[]⟩)] 4 Fo Tryz.func221 0
def Aes:Ax:=Aw [g_9,g_9] (fun d=>(Uw d.1 d.2.1).val) fun r=>([rv g_1 r],[])
theorem Anl:Fn Tryz.prog 195 .plain Aes:=mkF [(221,.plain,Ab6)] ⟨Amj,trivial⟩ Tryz.func195 0
def Ahk:Ax:=Aw [Jv,Jv] (fun d=>(Xl d.1 d.2.1).val) fun r=>([rv g_1 r],[])
theorem Aqd:Fn Tryz.prog 163 .plain Ahk:=mkF [(30,.plain,Q8),(195,.plain,Aes)] ⟨Sz,Anl,trivial⟩ Tryz.func163 0
def Ab7:Ax:=Aw [Jw,Jw] (fun d=>(Ra d.1 d.2.1).val) fun r=>([rv g_1 r],[])
theorem Amk:Fn Tryz.prog 113 .plain Ab7:=mkF [(30,.plain,Q8),(163,.plain,Ahk)] ⟨Sz,Aqd,trivial⟩ Tryz.func113 0
def Aai:Ax:=Aw [Fs,Fs] (fun d=>(Pd d.1 d.2.1).val) fun r=>([rv g_1 r],[])
theorem Ajf:Fn Tryz.prog 114 .plain Aai:=C8 [(30,.plain,Q8)] ⟨Sz,trivial⟩ ⟨[(2,.box 2 0),(3,.box 3 0),(5,.v false [(.int .i64,.nil)])],[(2,[(.int .i64,.nil),(.int .i64,.nil),(.sl 169 h_4,.ro)]),(3,[(.int .i64,.nil),(.int .i64,.nil),(.sl 169 h_4,.ro)])],[]⟩ 5000000 [(.ret,⟨[(4,.v false [(.bool,.nil)])],[],[]⟩),((.exit 0),⟨[],[],[]⟩)] 4 E7 Tryz.func114 0
def Ab8:Ax:=Aw [Ft,Ft] (fun d=>(Rb d.1 d.2.1).val) fun r=>([rv g_1 r],[])
theorem Aml:Fn Tryz.prog 57 .plain Ab8:=mkF [(30,.plain,Q8),(113,.plain,Ab7),(114,.plain,Aai)] ⟨Sz,Amk,Ajf,trivial⟩ Tryz.func57 0
def Aet:Ax:=Aw [g_4,g_4] (fun d=>(Ux d.1 d.2.1).val) fun r=>([rv g_1 r],[])
theorem Anm:Fn Tryz.prog 17 .plain Aet:=C8 [(57,.plain,Ab8)] ⟨Aml,trivial⟩ ⟨[(2,.box 2 0),(3,.box 3 0),(5,.v false [(.int .i64,.nil)])],[(2,[(.int .i64,.nil),(.sl 40 C5,.ro)]),(3,[(.int .i64,.nil),(.sl 40 C5,.ro)])],[]⟩ 5000000 [(.ret,⟨[(4,.v false [(.bool,.nil)])],[],[]⟩),((.exit 0),⟨[],[],[]⟩)] 4 F8 Tryz.func17 0
end
end Go.Proofs.YtfljmgnghlpapaaGreat

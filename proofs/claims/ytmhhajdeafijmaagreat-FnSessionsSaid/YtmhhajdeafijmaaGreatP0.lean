/-
  That the functions of the seat answer what the terms of text W say; nothing is assumed.
-/
import Derived.Test.YtmhhajdeafijmaaGreatW
import Derived.Test.YtmhhajdeafijmaaGreatProg
import Derived.KernelRfl
namespace Go.Proofs.YtmhhajdeafijmaaGreat
open Go.RowKit
set_option linter.unusedVariables false
set_option maxRecDepth 100000
set_option maxHeartbeats 4000000
noncomputable section
abbrev h_0:List Sh:=[.int .i64,.int .i64,.bool,.int .u8]
abbrev h_1:List Sh:=[.bool,.int .i64,.int .i64,.int .i64]
abbrev h_2:List Sh:=[.sl 5 [.int .u8],.int .i64,.int .i64]
abbrev h_3:List Sh:=[.int .i64,.int .i64,.int .i64,.int .i64]
abbrev h_4:List Sh:=[.sl 3 [.int .i64],.sl 5 [.int .u8],.int .i64]
abbrev h_5:List Sh:=[.int .i64,.int .i64,.sl 5 [.int .u8],.int .i64]
abbrev h_6:List Sh:=[.int .i64,.sl 5 [.int .u8],.int .i64,.int .i64,.sl 3 [.int .i64]]
abbrev h_7:List Sh:=[.int .i64,.int .i64,.sl 86 h_5]
abbrev h_8:List Sh:=[.int .i64,.int .i64,.sl 342 h_5]
abbrev h_9:List Sh:=[.int .i64,.int .i64,.int .i64,.sl 5 [.int .u8],.sl 5 [.int .u8],.int .i64,.int .i64,.sl 5 [.int .u8],.sl 5 [.int .u8],.int .i64,.int .i64,.int .i64]
abbrev A9t:List Sh:=[.int .i64,.int .i64,.sl 5 [.int .u8],.sl 5 [.int .u8],.int .i64,.sl 5 [.int .u8],.sl 5 [.int .u8],.int .i64,.int .i64,.sl 5 [.int .u8],.sl 5 [.int .u8]]
abbrev A2c:List Sh:=[.int .i64,.int .i64,.int .i64,.int .i64,.sl 5 [.int .u8],.sl 5 [.int .u8],.int .i64,.sl 5 [.int .u8],.sl 5 [.int .u8],.int .i64,.int .i64,.sl 5 [.int .u8],.sl 5 [.int .u8]]
abbrev A9u:List Sh:=[.int .i64,.sl 5 [.int .u8],.int .i64,.sl 5 [.int .u8],.int .i64,.int .i64,.sl 3 [.int .i64],.int .i64,.sl 5 [.int .u8],.int .i64,.int .i64,.sl 3 [.int .i64],.bool,.int .i64,.sl 5 [.int .u8]]
abbrev A6r:List Sh:=[.int .i64,.sl 5 [.int .u8],.sl 5 [.int .u8],.int .i64,.sl 5 [.int .u8],.int .i64,.sl 5 [.int .u8],.int .i64,.int .i64,.sl 3 [.int .i64],.int .i64,.sl 5 [.int .u8],.int .i64,.int .i64,.sl 3 [.int .i64],.bool,.int .i64,.sl 5 [.int .u8],.int .i64,.int .i64,.sl 86 h_5,.int .i64,.int .i64,.bool]
abbrev Ba8:List Sh:=[.int .i64,.sl 5 [.int .u8],.sl 5 [.int .u8],.int .i64,.sl 5 [.int .u8],.int .i64,.sl 5 [.int .u8],.int .i64,.int .i64,.sl 3 [.int .i64],.int .i64,.sl 5 [.int .u8],.int .i64,.int .i64,.sl 3 [.int .i64],.bool,.int .i64,.sl 5 [.int .u8],.int .i64,.int .i64,.sl 342 h_5,.int .i64,.int .i64,.bool]
abbrev Bbf:List Sh:=[.sl 23 [.sl 5 [.int .u8]],.sl 5 [.int .u8],.sl 5 [.int .u8],.int .i64,.int .i64,.sl 74 A6r,.sl 230 h_3]
abbrev Bbg:List Sh:=[.sl 23 [.sl 5 [.int .u8]],.sl 5 [.int .u8],.sl 5 [.int .u8],.int .i64,.int .i64,.sl 301 Ba8,.sl 248 h_3]
abbrev Bbh:List Sh:=[.int .i64,.sl 5 [.int .u8],.int .i64,.int .i64,.int .i64,.sl 5 [.int .u8],.int .i64,.int .i64,.sl 5 [.int .u8],.sl 5 [.int .u8],.int .i64,.sl 5 [.int .u8],.sl 5 [.int .u8],.int .i64,.int .i64,.sl 5 [.int .u8],.sl 5 [.int .u8],.int .i64,.sl 5 [.int .u8],.int .i64,.sl 5 [.int .u8],.int .i64,.int .i64,.sl 3 [.int .i64],.int .i64,.sl 5 [.int .u8],.int .i64,.int .i64,.sl 3 [.int .i64],.bool,.int .i64,.sl 5 [.int .u8],.bool,.int .i64,.int .i64,.int .i64,.bool,.int .i64,.int .i64,.int .i64,.int .i64]
abbrev g_0:Bool×List Sh:=(false,[.sl 5 [.int .u8]])
abbrev g_1:Bool×List Sh:=(false,[.bool])
abbrev g_2:Bool×List Sh:=(true,h_2)
abbrev g_3:Bool×List Sh:=(false,[.int .i64])
abbrev g_4:Bool×List Sh:=(true,A9t)
abbrev g_5:Bool×List Sh:=(false,[.sl 3 [.int .i64]])
abbrev g_6:Bool×List Sh:=(false,[.str])
abbrev g_7:Bool×List Sh:=(true,[.int .i64,.int .i64])
abbrev g_8:Bool×List Sh:=(true,[.int .i64,.sl 3 [.int .i64]])
abbrev g_9:Bool×List Sh:=(true,h_6)
abbrev Ic:Bool×List Sh:=(true,A9u)
abbrev Gi:Bool×List Sh:=(true,h_7)
abbrev R9:Bool×List Sh:=(true,A6r)
abbrev A6s:Bool×List Sh:=(true,h_5)
abbrev Ba9:Bool×List Sh:=(false,[.sl 23 [.sl 5 [.int .u8]]])
abbrev Avz:Bool×List Sh:=(true,h_4)
abbrev Bba:Bool×List Sh:=(false,[.int .u8])
abbrev A2d:Bool×List Sh:=(true,h_9)
abbrev A6t:Bool×List Sh:=(false,[.sl 90 A2c])
abbrev A6u:Bool×List Sh:=(false,[.sl 113 h_9])
def tys:List (Nat×Ty):=[(3,⟨false,[.int .i64],[],false,[]⟩),
 (4,⟨false,[.bool],[],false,[]⟩),
 (5,⟨false,[.int .u8],[],false,[]⟩),
 (9,⟨false,[.str],[],false,[]⟩),
 (22,⟨false,[.sl 23 [.sl 5 [.int .u8]]],[],false,[]⟩),
 (23,⟨false,[.sl 5 [.int .u8]],[],false,[]⟩),
 (45,⟨false,[.sl 90 A2c],[],false,[]⟩),
 (46,⟨false,[.sl 113 h_9],[],false,[]⟩),
 (50,⟨true,[.int .i64,.int .i64],[(0,1),(1,1)],true,[]⟩),
 (63,⟨false,[.sl 3 [.int .i64]],[],false,[]⟩),
 (65,⟨true,[.int .i64,.sl 3 [.int .i64]],[(0,1),(1,1)],false,[]⟩),
 (67,⟨true,h_6,[(0,1),(1,1),(2,1),(3,2)],false,[]⟩),
 (69,⟨true,A9u,[(0,1),(1,1),(2,5),(7,5),(12,1),(13,1),(14,1)],false,[]⟩),
 (70,⟨false,[.sl 86 h_5],[],false,[]⟩),
 (72,⟨true,h_7,[(0,2),(2,1)],false,[50,70]⟩),
 (74,⟨true,A6r,[(0,1),(1,1),(2,1),(3,15),(18,3),(21,1),(22,1),(23,1)],false,[]⟩),
 (76,⟨true,A9t,[(0,1),(1,1),(2,1),(3,1),(4,1),(5,1),(6,1),(7,1),(8,1),(9,1),(10,1)],false,[]⟩),
 (86,⟨true,h_5,[(0,2),(2,1),(3,1)],false,[]⟩),
 (90,⟨true,A2c,[(0,2),(2,11)],false,[]⟩),
 (113,⟨true,h_9,[(0,1),(1,1),(2,1),(3,1),(4,1),(5,1),(6,1),(7,1),(8,1),(9,2),(11,1)],false,[]⟩),
 (260,⟨true,h_2,[(0,1),(1,1),(2,1)],false,[]⟩),
 (308,⟨false,[.int .u64],[],false,[]⟩),
 (350,⟨true,h_4,[(0,1),(1,1),(2,1)],false,[]⟩)]
theorem K5:A2e Tryz.prog tys=true:=by kernel_rfl
theorem Ok:Tryz.prog.follows .mixedOrders=true:=by kernel_rfl
abbrev Ec (C:Fns):Cfg:=⟨Aop tys,S8 C,P3 C,3,4⟩
theorem mkF {f:FuncId} {fn:Func} {kd:Kind} {ps:List (Bool×List Sh)} {R:Type} {T:Oz ps→Tree R} {rvs:R→List RV×List RV} (C:Fns) (hc:Lv Tryz.prog C) (hf:Tryz.prog.funcs[f]? =some fn) (np:Nat) (hn:(fn.name== "runtime.NumGoroutine")=false:=by kernel_rfl) (hb:fn.body.isSome=true:=by kernel_rfl) (hl:Bx (fn.body.getD .skip)=[]:=by kernel_rfl)
  (he: ∀d,H9 (Ec C) np (fun _ _=>.fail) fn kd (mkA ps d)=(T d).run fun r=>some (rvs r):=by intro d;kernel_rfl):Fn Tryz.prog f kd (Aw ps (fun d=>(T d).val) rvs):=
 Qa (Gz Ok K5 hc) hf hn hb (fun cx b hp hbb=>by rw[hl]at hbb;cases hbb) he
abbrev lpq (r:Nat) (K:Sk) (z:Nat) (X:List (Ex×Sk)) (B:K.den→Option (K.den⊕O0 X)):Fy:=fun i st=>cond (Nat.beq i r) (lam K z X B st) .fail
theorem Dj {f:FuncId} {fn:Func} {kd:Kind} {ps:List (Bool×List Sh)} {R:Type} {T:Oz ps→Tree R} {rvs:R→List RV×List RV} (C:Fns) (hc:Lv Tryz.prog C) (K:Sk) (z:Nat) (X:List (Ex×Sk)) (r:Nat) (B:K.den→Option (K.den⊕O0 X)) (hf:Tryz.prog.funcs[f]? =some fn) (np:Nat) (hn:(fn.name== "runtime.NumGoroutine")=false:=by kernel_rfl) (hb:fn.body.isSome=true:=by kernel_rfl) (h1:Bx (fn.body.getD .skip)=[Bc fn 0]:=by kernel_rfl) (h2:Bx (Bc fn 0)=[]:=by kernel_rfl)
  (hq:lpq r K z X B (K6 (Bc fn 0))=lam K z X B:=by kernel_rfl) (hl: ∀d,bod (Ec C) np fn.ntmps (lpq r K z X B) (Bc fn 0) K z X d=B d:=by intro d;kernel_rfl)
  (he: ∀d,H9 (Ec C) np (lpq r K z X B) fn kd (mkA ps d)=(T d).run fun r=>some (rvs r):=by intro d;kernel_rfl):Fn Tryz.prog f kd (Aw ps (fun d=>(T d).val) rvs):=
 Qa (Gz Ok K5 hc) hf hn hb (fun cx b hp hbb=>Dt h1 ⟨Fv (Gz Ok K5 hc) hp (Dt h2 trivial) hq hl,trivial⟩ b hbb) he
def A0v:Ax:=Aw [g_0] (fun d=>(A0w d.1).val) fun r=>([rv g_1 r],[])
theorem A6v:Fn Tryz.prog 26 .plain A0v:=mkF [] trivial Tryz.func26 0
def Ata:Ax:=Aw [g_0] (fun d=>(Ahr d.1).val) fun r=>([rv g_2 r],[])
theorem A2f:Fn Tryz.prog 124 .ret Ata:=Dj [] trivial ⟨[(0,.v false [(.sl 5 [.int .u8],.ro)]),(3,.v false [(.int .i64,.nil)]),(4,.v false [(.int .i64,.nil)])],[],[]⟩ 4000000 [((.exit 0),⟨[(0,.v false [(.sl 5 [.int .u8],.ro)]),(3,.v false [(.int .i64,.nil)])],[],[]⟩)] 3 S9 Tryz.func124 0
def Qb:Ax:=Aw [g_2] (fun d=>(Adm d.1).val) fun r=>([rv g_3 r.1],[rv g_2 r.2])
theorem Ta:Fn Tryz.prog 269 (.box [3] true true) Qb:=mkF [] trivial Tryz.func269 1
def Ja:Ax:=Aw [g_2,g_3] (fun d=>(Aah d.1 d.2.1).val) fun r=>([rv g_0 r.1],[rv g_2 r.2])
theorem Ji:Fn Tryz.prog 128 (.box [3] true true) Ja:=Dj [(269,(.box [3] true true),Qb)] ⟨Ta,trivial⟩ ⟨[(0,.box 0 0),(1,.v false [(.int .i64,.nil)]),(5,.v false [(.sl 5 [.int .u8],(.own 4000000))]),(6,.v false [(.int .i64,.nil)])],[(0,[(.sl 5 [.int .u8],(.pin 0)),(.int .i64,.nil),(.int .i64,.nil)])],[4000000]⟩ 4000000 [((.exit 0),⟨[(0,.box 0 0),(5,.v false [(.sl 5 [.int .u8],(.own 4000000))])],[(0,[(.sl 5 [.int .u8],(.pin 0)),(.int .i64,.nil),(.int .i64,.nil)])],[4000000]⟩)] 3 K7 Tryz.func128 1
def D9:Ax:=Aw [g_2,g_3] (fun d=>(Aai d.1 d.2.1).val) fun r=>([rv g_3 r.1],[rv g_2 r.2])
theorem D5:Fn Tryz.prog 175 (.box [3] true true) D9:=mkF [(269,(.box [3] true true),Qb)] ⟨Ta,trivial⟩ Tryz.func175 1
def Agw:Ax:=Aw [g_2] (fun d=>(Ol d.1).val) fun r=>([rv g_4 r.1],[rv g_2 r.2])
theorem Arf:Fn Tryz.prog 173 (.box [3] true true) Agw:=mkF [(128,(.box [3] true true),Ja),(175,(.box [3] true true),D9)] ⟨Ji,D5,trivial⟩ Tryz.func173 1
def Dd:Ax:=Aw [g_3,g_3,g_3] (fun d=>(Amw d.1 d.2.1 d.2.2.1).val) fun r=>([rv g_1 r],[])
theorem C6:Fn Tryz.prog 66 .plain Dd:=mkF [] trivial Tryz.func66 0
def U8:Ax:=Aw [g_3] (fun d=>(Adn d.1).val) fun r=>([rv g_1 r],[])
theorem Aaj:Fn Tryz.prog 86 .plain U8:=mkF [(66,.plain,Dd)] ⟨C6,trivial⟩ Tryz.func86 0
def Ado:Ax:=Aw [g_3,g_3] (fun d=>(Adp d.1 d.2.1).val) fun r=>([rv g_1 r],[])
theorem Ala:Fn Tryz.prog 307 .plain Ado:=mkF [] trivial Tryz.func307 0
def Tb:Ax:=Aw [g_4] (fun d=>(Aak d.1).val) fun r=>([rv g_1 r],[])
theorem V8:Fn Tryz.prog 185 .plain Tb:=mkF [(86,.plain,U8),(66,.plain,Dd),(307,.plain,Ado)] ⟨Aaj,C6,Ala,trivial⟩ Tryz.func185 0
def Za:Ax:=Aw [g_0] (fun d=>(Ahs d.1).val) fun r=>([rv g_1 r],[])
theorem Adq:Fn Tryz.prog 180 .plain Za:=mkF [(66,.plain,Dd)] ⟨C6,trivial⟩ Tryz.func180 0
def O5:Ax:=Aw [g_0,g_3,g_3] (fun d=>(Amx d.1 d.2.1 d.2.2.1).val) fun r=>([rv g_0 r],[])
theorem Ph:Fn Tryz.prog 217 .plain O5:=Dj [] trivial ⟨[(1,.v false [(.int .i64,.nil)]),(7,.v false [(.sl 5 [.int .u8],(.own 6000000))]),(8,.v false [(.int .i64,.nil)])],[],[6000000]⟩ 6000000 [((.exit 0),⟨[(7,.v false [(.sl 5 [.int .u8],(.own 6000000))])],[],[6000000]⟩)] 5 Qc Tryz.func217 0
def A0x:Ax:=Aw [g_3] (fun d=>(Arg d.1).val) fun r=>([rv g_0 r],[])
theorem A6w:Fn Tryz.prog 394 .plain A0x:=Dj [(217,.plain,O5)] ⟨Ph,trivial⟩ ⟨[(0,.v false [(.int .i64,.nil)]),(3,.v false [(.sl 5 [.int .u8],(.own 5000000))])],[],[5000000]⟩ 5000000 [((.exit 0),⟨[(0,.v false [(.int .i64,.nil)]),(3,.v false [(.sl 5 [.int .u8],(.own 5000000))])],[],[5000000]⟩)] 4 Aht Tryz.func394 0
def Atb:Ax:=Aw [] (fun d=>(Atc).val) fun r=>([rv g_5 r],[])
theorem A2g:Fn Tryz.prog 395 .plain Atb:=mkF [] trivial Tryz.func395 0
def Alb:Ax:=Aw [g_5] (fun d=>(Aal d.1).val) fun r=>([rv g_1 r],[])
theorem Av0:Fn Tryz.prog 409 .plain Alb:=Dj [(66,.plain,Dd)] ⟨C6,trivial⟩ ⟨[(0,.v false [(.sl 3 [.int .i64],.ro)]),(3,.v false [(.int .i64,.nil)])],[],[]⟩ 3000000 [(.ret,⟨[(2,.v false [(.bool,.nil)])],[],[]⟩),((.exit 0),⟨[(0,.v false [(.sl 3 [.int .i64],.ro)])],[],[]⟩)] 2 K8 Tryz.func409 0
def A0y:Ax:=Aw [] (fun d=>(A0z).val) fun r=>([rv g_5 r],[])
theorem A6x:Fn Tryz.prog 410 .plain A0y:=mkF [] trivial Tryz.func410 0
def Av1:Ax:=Aw [g_0,g_3,g_3] (fun d=>(Amy d.1 d.2.1 d.2.2.1).val) fun r=>([rv g_3 r.1,rv g_3 r.2.1,rv g_1 r.2.2],[])
theorem A4j:Fn Tryz.prog 210 .plain Av1:=Dj [] trivial ⟨[(0,.v false [(.sl 5 [.int .u8],.ro)]),(1,.v false [(.int .i64,.nil)]),(2,.v false [(.int .i64,.nil)]),(9,.v false [(.int .i64,.nil)]),(10,.v false [(.int .i64,.nil)])],[],[]⟩ 6000000 [((.exit 0),⟨[(1,.v false [(.int .i64,.nil)]),(2,.v false [(.int .i64,.nil)]),(9,.v false [(.int .i64,.nil)])],[],[]⟩)] 5 M5 Tryz.func210 0
def Arh:Ax:=Aw [g_3,g_3] (fun d=>(Ari d.1 d.2.1).val) fun r=>([rv g_3 r],[])
theorem Av2:Fn Tryz.prog 412 .plain Arh:=mkF [] trivial Tryz.func412 0
def Ahu:Ax:=Aw [g_0] (fun d=>(Qd d.1).val) fun r=>([rv g_5 r],[])
def L7:Fns:=[(210,.plain,Av1),(412,.plain,Arh)]
theorem V9:CfgOk Tryz.prog (Ec L7):=Gz Ok K5 (show Lv Tryz.prog L7 from⟨A4j,Av2,trivial⟩)
def Zb:Sk:=⟨[(3,.v false [(.sl 3 [.int .i64],(.own 11000000))]),(8,.v false [(.int .i64,.nil)])],[],[11000000]⟩
def Zc:List (Ex×Sk):=[((.exit 2),⟨[(3,.v false [(.sl 3 [.int .i64],(.own 11000000))])],[],[11000000]⟩)]
def Ab7:Sk:=⟨[(0,.v false [(.sl 5 [.int .u8],.ro)]),(3,.v false [(.sl 3 [.int .i64],(.own 6000000))]),(4,.v false [(.int .i64,.nil)])],[],[6000000]⟩
def Ab8:List (Ex×Sk):=[((.exit 0),⟨[(3,.v false [(.sl 3 [.int .i64],(.own 6000000))])],[],[6000000]⟩)]
def L8:Fy:=fun i st=>cond (Nat.beq i 5) (lam Ab7 6000000 Ab8 Hs st) <| cond (Nat.beq i 10) (lam Zb 11000000 Zc Gr st) <| .fail
theorem Aoq (cx:Cx) (hp:cx.pin.length≤0):D6 Tryz.prog cx Tryz.f411.ntmps L8 (Bc Tryz.f411 0):=Fv V9 hp (Dt (by kernel_rfl:Bx (Bc Tryz.f411 0)=[]) trivial) (by kernel_rfl) (fun d=>(by kernel_rfl:bod (Ec L7) 0 Tryz.f411.ntmps L8 (Bc Tryz.f411 0) Ab7 6000000 Ab8 d=Hs d))
theorem Amz (cx:Cx) (hp:cx.pin.length≤0):D6 Tryz.prog cx Tryz.f411.ntmps L8 (Bc Tryz.f411 1):=Fv V9 hp (Dt (by kernel_rfl:Bx (Bc Tryz.f411 1)=[]) trivial) (by kernel_rfl) (fun d=>(by kernel_rfl:bod (Ec L7) 0 Tryz.f411.ntmps L8 (Bc Tryz.f411 1) Zb 11000000 Zc d=Gr d))
theorem Auu:Fn Tryz.prog 411 .plain Ahu:=Qa V9 Tryz.func411 (by kernel_rfl) (by kernel_rfl) (fun cx b hp hb=>Dt (by kernel_rfl:Bx (Tryz.f411.body.getD .skip)=[Bc Tryz.f411 0,Bc Tryz.f411 1]) ⟨Aoq cx hp,Amz cx hp,trivial⟩ b hb) (fun d=>(by kernel_rfl:H9 (Ec L7) 0 L8 Tryz.f411 .plain (mkA [g_0] d)=(Qd d.1).run fun r=>some ([rv g_5 r],[])))
def Ahv:Ax:=Aw [g_5,g_0] (fun d=>(Qe d.1 d.2.1).val) fun r=>([rv g_5 r],[])
def L9:Fns:=[(409,.plain,Alb),(410,.plain,A0y),(411,.plain,Ahu),(412,.plain,Arh)]
theorem Wa:CfgOk Tryz.prog (Ec L9):=Gz Ok K5 (show Lv Tryz.prog L9 from⟨Av0,A6x,Auu,Av2,trivial⟩)
def Zd:Sk:=⟨[(0,.v false [(.sl 3 [.int .i64],.ro)]),(5,.v false [(.sl 3 [.int .i64],(.own 23000000))]),(19,.v false [(.sl 3 [.int .i64],(.own 23000001))]),(20,.v false [(.int .i64,.nil)])],[],[23000000,23000001]⟩
def Ze:List (Ex×Sk):=[((.exit 2),⟨[(5,.v false [(.sl 3 [.int .i64],(.own 23000000))])],[],[23000000]⟩)]
def Ab9:Sk:=⟨[(0,.v false [(.sl 3 [.int .i64],.ro)]),(5,.v false [(.sl 3 [.int .i64],(.own 9000000))]),(6,.v false [(.sl 3 [.int .i64],(.own 9000001))]),(7,.v false [(.sl 3 [.int .i64],(.own 9000002))]),(8,.v false [(.int .i64,.nil)]),(9,.v false [(.int .i64,.nil)]),(10,.v false [(.int .i64,.nil)]),(11,.v false [(.int .i64,.nil)]),(12,.v false [(.int .i64,.nil)]),(13,.v false [(.int .i64,.nil)]),(14,.v false [(.int .i64,.nil)]),(15,.v false [(.int .i64,.nil)]),(16,.v false [(.int .i64,.nil)])],[],[9000000,9000001,9000002]⟩
def Aca:List (Ex×Sk):=[((.exit 0),⟨[(0,.v false [(.sl 3 [.int .i64],.ro)]),(5,.v false [(.sl 3 [.int .i64],(.own 9000000))]),(8,.v false [(.int .i64,.nil)]),(9,.v false [(.int .i64,.nil)]),(10,.v false [(.int .i64,.nil)]),(11,.v false [(.int .i64,.nil)]),(12,.v false [(.int .i64,.nil)]),(13,.v false [(.int .i64,.nil)]),(14,.v false [(.int .i64,.nil)]),(15,.v false [(.int .i64,.nil)])],[],[9000000]⟩)]
def Ma:Fy:=fun i st=>cond (Nat.beq i 8) (lam Ab9 9000000 Aca F2 st) <| cond (Nat.beq i 22) (lam Zd 23000000 Ze Fl st) <| .fail
theorem Aor (cx:Cx) (hp:cx.pin.length≤0):D6 Tryz.prog cx Tryz.f396.ntmps Ma (Bc Tryz.f396 0):=Fv Wa hp (Dt (by kernel_rfl:Bx (Bc Tryz.f396 0)=[]) trivial) (by kernel_rfl) (fun d=>(by kernel_rfl:bod (Ec L9) 0 Tryz.f396.ntmps Ma (Bc Tryz.f396 0) Ab9 9000000 Aca d=F2 d))
theorem Am0 (cx:Cx) (hp:cx.pin.length≤0):D6 Tryz.prog cx Tryz.f396.ntmps Ma (Bc Tryz.f396 1):=Fv Wa hp (Dt (by kernel_rfl:Bx (Bc Tryz.f396 1)=[]) trivial) (by kernel_rfl) (fun d=>(by kernel_rfl:bod (Ec L9) 0 Tryz.f396.ntmps Ma (Bc Tryz.f396 1) Zd 23000000 Ze d=Fl d))
theorem Auv:Fn Tryz.prog 396 .plain Ahv:=Qa Wa Tryz.func396 (by kernel_rfl) (by kernel_rfl) (fun cx b hp hb=>Dt (by kernel_rfl:Bx (Tryz.f396.body.getD .skip)=[Bc Tryz.f396 0,Bc Tryz.f396 1]) ⟨Aor cx hp,Am0 cx hp,trivial⟩ b hb) (fun d=>(by kernel_rfl:H9 (Ec L9) 0 Ma Tryz.f396 .plain (mkA [g_5,g_0] d)=(Qe d.1 d.2.1).run fun r=>some ([rv g_5 r],[])))
def Atd:Ax:=Aw [g_5] (fun d=>(Ahw d.1).val) fun r=>([rv g_0 r],[])
theorem A2h:Fn Tryz.prog 397 .plain Atd:=Dj [(217,.plain,O5)] ⟨Ph,trivial⟩ ⟨[(0,.v false [(.sl 3 [.int .i64],.ro)]),(3,.v false [(.sl 5 [.int .u8],(.own 4000000))]),(4,.v false [(.int .i64,.nil)])],[],[4000000]⟩ 4000000 [((.exit 0),⟨[(3,.v false [(.sl 5 [.int .u8],(.own 4000000))])],[],[4000000]⟩)] 3 Lg Tryz.func397 0
def Arj:Ax:=Aw [g_0] (fun d=>(Ark d.1).val) fun r=>([rv g_0 r],[])
theorem Av3:Fn Tryz.prog 371 .plain Arj:=Dj [(394,.plain,A0x),(395,.plain,Atb),(396,.plain,Ahv),(397,.plain,Atd)] ⟨A6w,A2g,Auv,A2h,trivial⟩ ⟨[(3,.v false [(.sl 5 [.int .u8],(.own 7000000))]),(4,.v false [(.sl 3 [.int .i64],(.own 7000001))]),(5,.v false [(.int .i64,.nil)])],[],[7000000,7000001]⟩ 7000000 [((.exit 0),⟨[(4,.v false [(.sl 3 [.int .i64],(.own 7000000))])],[],[7000000]⟩)] 6 Pi Tryz.func371 0
def Ahx:Ax:=Aw [g_0] (fun d=>(Wb d.1).val) fun r=>([rv g_0 r],[])
theorem Auw:Fn Tryz.prog 370 .plain Ahx:=Dj [(371,.plain,Arj)] ⟨Av3,trivial⟩ ⟨[(3,.v false [(.sl 5 [.int .u8],(.own 7000000))])],[],[7000000]⟩ 7000000 [((.exit 0),⟨[(3,.v false [(.sl 5 [.int .u8],(.own 7000000))])],[],[7000000]⟩)] 6 M6 Tryz.func370 0
def Wc:Ax:=Aw [g_0,g_0] (fun d=>(Am1 d.1 d.2.1).val) fun r=>([rv g_0 r],[])
theorem Zf:Fn Tryz.prog 319 .plain Wc:=Dj [(370,.plain,Ahx),(371,.plain,Arj)] ⟨Auw,Av3,trivial⟩ ⟨[(1,.v false [(.sl 5 [.int .u8],.ro)]),(5,.v false [(.sl 5 [.int .u8],(.own 8000000))]),(6,.v false [(.sl 5 [.int .u8],(.own 8000001))]),(7,.v false [(.sl 5 [.int .u8],(.own 8000002))]),(8,.v false [(.int .i64,.nil)])],[],[8000000,8000001,8000002]⟩ 8000000 [((.exit 0),⟨[(1,.v false [(.sl 5 [.int .u8],.ro)]),(6,.v false [(.sl 5 [.int .u8],(.own 8000000))]),(7,.v false [(.sl 5 [.int .u8],(.own 8000001))])],[],[8000000,8000001]⟩)] 7 M7 Tryz.func319 0
def Aam:Ax:=Aw [g_0,g_0] (fun d=>(Tc d.1 d.2.1).val) fun r=>([rv g_0 r],[])
theorem Ahy:Fn Tryz.prog 226 .plain Aam:=mkF [(319,.plain,Wc)] ⟨Zf,trivial⟩ Tryz.func226 0
def Aos:Ax:=Aw [g_0,g_0,g_3] (fun d=>(Adr d.1 d.2.1 d.2.2.1).val) fun r=>([rv g_0 r.1,rv g_1 r.2],[])
theorem Ay9:Fn Tryz.prog 324 .plain Aos:=Dj [(66,.plain,Dd),(319,.plain,Wc)] ⟨C6,Zf,trivial⟩ ⟨[(0,.v false [(.sl 5 [.int .u8],.ro)]),(1,.v false [(.sl 5 [.int .u8],.ro)]),(2,.v false [(.int .i64,.nil)]),(8,.v false [(.sl 5 [.int .u8],(.own 7000000))]),(9,.v false [(.sl 5 [.int .u8],(.own 7000001))]),(10,.v false [(.int .i64,.nil)])],[],[7000000,7000001]⟩ 7000000 [((.exit 0),⟨[(2,.v false [(.int .i64,.nil)]),(8,.v false [(.sl 5 [.int .u8],(.own 7000000))])],[],[7000000]⟩)] 6 Jj Tryz.func324 0
def Qf:Ax:=Aw [g_0,g_6] (fun d=>(Ads d.1 d.2.1).val) fun r=>([rv g_0 r],[])
theorem Td:Fn Tryz.prog 225 .plain Qf:=mkF [(324,.plain,Aos)] ⟨Ay9,trivial⟩ Tryz.func225 0
def Agx:Ax:=Aw [g_0] (fun d=>(Um d.1).val) fun r=>([rv g_0 r],[])
theorem Arl:Fn Tryz.prog 82 .plain Agx:=mkF [(180,.plain,Za),(226,.plain,Aam),(225,.plain,Qf)] ⟨Adq,Ahy,Td,trivial⟩ Tryz.func82 0
def Agy:Ax:=Aw [g_3,g_0,g_0,g_3,g_0] (fun d=>(Un d.1 d.2.1 d.2.2.1 d.2.2.2.1 d.2.2.2.2.1).val) fun r=>([rv g_0 r],[])
theorem Arm:Fn Tryz.prog 83 .plain Agy:=mkF [(66,.plain,Dd),(217,.plain,O5)] ⟨C6,Ph,trivial⟩ Tryz.func83 0
def Arn:Ax:=Aw [g_0,g_0] (fun d=>(Aro d.1 d.2.1).val) fun r=>([rv g_0 r],[])
theorem Av4:Fn Tryz.prog 215 .plain Arn:=mkF [(319,.plain,Wc)] ⟨Zf,trivial⟩ Tryz.func215 0
def Ate:Ax:=Aw [g_0,g_3,g_0,g_0,g_3,g_0] (fun d=>(Ahz d.1 d.2.1 d.2.2.1 d.2.2.2.1 d.2.2.2.2.1 d.2.2.2.2.2.1).val) fun r=>([rv g_0 r],[])
theorem A2i:Fn Tryz.prog 220 .plain Ate:=mkF [(82,.plain,Agx),(83,.plain,Agy),(215,.plain,Arn)] ⟨Arl,Arm,Av4,trivial⟩ Tryz.func220 0
def Adt:Ax:=Aw [g_4] (fun d=>(Adu d.1).val) fun r=>([rv g_4 r],[])
theorem Alc:Fn Tryz.prog 296 .plain Adt:=mkF [] trivial Tryz.func296 0
def Ah0:Ax:=Aw [g_0,g_3,g_4] (fun d=>(Qg d.1 d.2.1 d.2.2.1).val) fun r=>([rv g_4 r.1,rv g_1 r.2],[])
theorem Aux:Fn Tryz.prog 263 .plain Ah0:=mkF [(185,.plain,Tb),(220,.plain,Ate),(296,.plain,Adt)] ⟨V8,A2i,Alc,trivial⟩ Tryz.func263 0
def Hn:Ax:=Aw [g_2,g_5] (fun d=>(Ah1 d.1 d.2.1).val) fun r=>([rv g_3 r.1],[rv g_2 r.2])
theorem Hf:Fn Tryz.prog 127 (.box [3] true true) Hn:=mkF [(175,(.box [3] true true),D9)] ⟨D5,trivial⟩ Tryz.func127 1
def Wd:Ax:=Aw [g_3] (fun d=>(We d.1).val) fun r=>([rv g_7 r],[])
theorem Zg:Fn Tryz.prog 197 .plain Wd:=mkF [(66,.plain,Dd)] ⟨C6,trivial⟩ Tryz.func197 0
def U9:Ax:=Aw [g_7] (fun d=>(Adv d.1).val) fun r=>([rv g_1 r],[])
theorem Aan:Fn Tryz.prog 67 .plain U9:=mkF [(66,.plain,Dd)] ⟨C6,trivial⟩ Tryz.func67 0
def Ald:Ax:=Aw [g_0,g_0,g_0] (fun d=>(Aao d.1 d.2.1 d.2.2.1).val) fun r=>([rv g_0 r],[])
theorem Av5:Fn Tryz.prog 322 .plain Ald:=mkF [(180,.plain,Za),(226,.plain,Aam)] ⟨Adq,Ahy,trivial⟩ Tryz.func322 0
def Ah2:Ax:=Aw [g_0] (fun d=>(Wg d.1).val) fun r=>([rv g_0 r],[])
theorem Auy:Fn Tryz.prog 321 .plain Ah2:=mkF [(225,.plain,Qf)] ⟨Td,trivial⟩ Tryz.func321 0
def Atf:Ax:=Aw [g_0,g_3] (fun d=>(Ah3 d.1 d.2.1).val) fun r=>([rv g_0 r],[])
theorem A2j:Fn Tryz.prog 323 .plain Atf:=Dj [(66,.plain,Dd),(225,.plain,Qf)] ⟨C6,Td,trivial⟩ ⟨[(1,.v false [(.int .i64,.nil)]),(5,.v false [(.sl 5 [.int .u8],(.own 6000000))]),(6,.v false [(.int .i64,.nil)])],[],[6000000]⟩ 6000000 [((.exit 0),⟨[(5,.v false [(.sl 5 [.int .u8],(.own 6000000))])],[],[6000000]⟩)] 5 Lh Tryz.func323 0
def Ah4:Ax:=Aw [g_0,g_0,g_0,g_3] (fun d=>(Wh d.1 d.2.1 d.2.2.1 d.2.2.2.1).val) fun r=>([rv g_0 r],[])
theorem Auz:Fn Tryz.prog 222 .plain Ah4:=mkF [(322,.plain,Ald),(321,.plain,Ah2),(323,.plain,Atf)] ⟨Av5,Auy,A2j,trivial⟩ Tryz.func222 0
def Adw:Ax:=Aw [] (fun d=>(Adx).val) fun r=>([rv g_8 r],[])
theorem Ale:Fn Tryz.prog 360 .plain Adw:=Dj [] trivial ⟨[(0,.box 0 0),(1,.box 1 0),(2,.v false [(.int .i64,.nil)])],[(0,[(.int .i64,.nil),(.sl 3 [.int .i64],(.own 4000000))]),(1,[(.int .i64,.nil),(.sl 3 [.int .i64],(.own 4000001))])],[4000000,4000001]⟩ 4000000 [((.exit 0),⟨[(0,.box 0 0),(1,.box 1 0)],[(0,[(.int .i64,.nil),(.sl 3 [.int .i64],(.own 4000000))]),(1,[(.int .i64,.nil),(.sl 3 [.int .i64],(.own 4000001))])],[4000000,4000001]⟩)] 3 Jk Tryz.func360 0
def Zh:Ax:=Aw [g_3,g_0] (fun d=>(Ts d.1 d.2.1).val) fun r=>([rv g_9 r],[])
theorem Ady:Fn Tryz.prog 299 .plain Zh:=mkF [(66,.plain,Dd),(360,.plain,Adw)] ⟨C6,Ale,trivial⟩ Tryz.func299 0
def Aap:Ax:=Aw [g_3,g_0,g_0] (fun d=>(Te d.1 d.2.1 d.2.2.1).val) fun r=>([rv Ic r],[])
theorem Ah5:Fn Tryz.prog 221 .plain Aap:=mkF [(66,.plain,Dd),(299,.plain,Zh)] ⟨C6,Ady,trivial⟩ Tryz.func221 0
def Wi:Ax:=Aw [g_7] (fun d=>(Ah6 d.1).val) fun r=>([rv Gi r],[])
theorem Agz:Fn Tryz.prog 223 .plain Wi:=mkF [] trivial Tryz.func223 0
def Alf:Ax:=Aw [g_0,g_3,g_7,g_4] (fun d=>(Tf d.1 d.2.1 d.2.2.1 d.2.2.2.1).val) fun r=>([rv R9 r],[])
theorem Av6:Fn Tryz.prog 79 .plain Alf:=mkF [(180,.plain,Za),(66,.plain,Dd),(67,.plain,U9),(185,.plain,Tb),(222,.plain,Ah4),(221,.plain,Aap),(223,.plain,Wi)] ⟨Adq,C6,Aan,V8,Auz,Ah5,Agz,trivial⟩ Tryz.func79 0
def Ki:Ax:=Aw [g_2,g_3] (fun d=>(Adz d.1 d.2.1).val) fun r=>([rv g_1 r.1],[rv g_2 r.2])
theorem Li:Fn Tryz.prog 167 (.box [3] true true) Ki:=mkF [(175,(.box [3] true true),D9)] ⟨D5,trivial⟩ Tryz.func167 1
def Aot:Ax:=Aw [g_2,g_3] (fun d=>(Ad0 d.1 d.2.1).val) fun r=>([rv g_5 r.1],[rv g_2 r.2])
theorem Aza:Fn Tryz.prog 379 (.box [3] true true) Aot:=Dj [(127,(.box [3] true true),Hn),(175,(.box [3] true true),D9),(167,(.box [3] true true),Ki)] ⟨Hf,D5,Li,trivial⟩ ⟨[(0,.box 0 0),(5,.v false [(.sl 3 [.int .i64],(.own 5000000))]),(6,.v false [(.int .i64,.nil)]),(7,.v false [(.int .i64,.nil)])],[(0,[(.sl 5 [.int .u8],(.pin 0)),(.int .i64,.nil),(.int .i64,.nil)])],[5000000]⟩ 5000000 [((.exit 0),⟨[(0,.box 0 0),(5,.v false [(.sl 3 [.int .i64],(.own 5000000))])],[(0,[(.sl 5 [.int .u8],(.pin 0)),(.int .i64,.nil),(.int .i64,.nil)])],[5000000]⟩)] 4 Qh Tryz.func379 1
def Aou:Ax:=Aw [g_8] (fun d=>(Aov d.1).val) fun r=>([rv g_8 r],[])
theorem Azb:Fn Tryz.prog 389 .plain Aou:=mkF [] trivial Tryz.func389 0
def Ah7:Ax:=Aw [g_8,g_3] (fun d=>(Ah8 d.1 d.2.1).val) fun r=>([rv g_1 r],[])
theorem Aow:Fn Tryz.prog 390 .plain Ah7:=mkF [] trivial Tryz.func390 0
def Atg:Ax:=Aw [g_8] (fun d=>(Zi d.1).val) fun r=>([rv g_1 r],[])
def Tt:Fns:=[(66,.plain,Dd),(390,.plain,Ah7)]
theorem Ah9:CfgOk Tryz.prog (Ec Tt):=Gz Ok K5 (show Lv Tryz.prog Tt from⟨C6,Aow,trivial⟩)
def Aia:Sk:=⟨[(1,.box 1 0),(4,.v false [(.int .i64,.nil)])],[(1,[(.int .i64,.nil),(.sl 3 [.int .i64],.ro)])],[]⟩
def Aib:List (Ex×Sk):=[(.ret,⟨[(2,.v false [(.bool,.nil)])],[],[]⟩),((.exit 2),⟨[],[],[]⟩)]
def Alg:Sk:=⟨[(1,.box 1 0),(3,.v false [(.int .i64,.nil)])],[(1,[(.int .i64,.nil),(.sl 3 [.int .i64],.ro)])],[]⟩
def Alh:List (Ex×Sk):=[(.ret,⟨[(2,.v false [(.bool,.nil)])],[],[]⟩),((.exit 0),⟨[(1,.box 1 0)],[(1,[(.int .i64,.nil),(.sl 3 [.int .i64],.ro)])],[]⟩)]
def Tu:Fy:=fun i st=>cond (Nat.beq i 4) (lam Alg 5000000 Alh Jb st) <| cond (Nat.beq i 11) (lam Aia 12000000 Aib Gj st) <| .fail
theorem Av7 (cx:Cx) (hp:cx.pin.length≤0):D6 Tryz.prog cx Tryz.f364.ntmps Tu (Bc Tryz.f364 0):=Fv Ah9 hp (Dt (by kernel_rfl:Bx (Bc Tryz.f364 0)=[]) trivial) (by kernel_rfl) (fun d=>(by kernel_rfl:bod (Ec Tt) 0 Tryz.f364.ntmps Tu (Bc Tryz.f364 0) Alg 5000000 Alh d=Jb d))
theorem Au0 (cx:Cx) (hp:cx.pin.length≤0):D6 Tryz.prog cx Tryz.f364.ntmps Tu (Bc Tryz.f364 1):=Fv Ah9 hp (Dt (by kernel_rfl:Bx (Bc Tryz.f364 1)=[]) trivial) (by kernel_rfl) (fun d=>(by kernel_rfl:bod (Ec Tt) 0 Tryz.f364.ntmps Tu (Bc Tryz.f364 1) Aia 12000000 Aib d=Gj d))
theorem A2k:Fn Tryz.prog 364 .plain Atg:=Qa Ah9 Tryz.func364 (by kernel_rfl) (by kernel_rfl) (fun cx b hp hb=>Dt (by kernel_rfl:Bx (Tryz.f364.body.getD .skip)=[Bc Tryz.f364 0,Bc Tryz.f364 1]) ⟨Av7 cx hp,Au0 cx hp,trivial⟩ b hb) (fun d=>(by kernel_rfl:H9 (Ec Tt) 0 Tu Tryz.f364 .plain (mkA [g_8] d)=(Zi d.1).run fun r=>some ([rv g_1 r],[])))
def Ali:Ax:=Aw [g_3] (fun d=>(Aaq d.1).val) fun r=>([rv g_3 r],[])
theorem Av8:Fn Tryz.prog 391 .plain Ali:=mkF [] trivial Tryz.func391 0
def Aox:Ax:=Aw [g_8,g_3] (fun d=>(Ad1 d.1 d.2.1).val) fun r=>([rv g_1 r],[])
theorem Azc:Fn Tryz.prog 365 .plain Aox:=mkF [(364,.plain,Atg),(66,.plain,Dd),(391,.plain,Ali),(390,.plain,Ah7)] ⟨A2k,C6,Av8,Aow,trivial⟩ Tryz.func365 0
def Aoy:Ax:=Aw [g_8,g_3] (fun d=>(Ad2 d.1 d.2.1).val) fun r=>([rv g_8 r.1,rv g_1 r.2],[])
theorem Azd:Fn Tryz.prog 367 .plain Aoy:=Dj [(389,.plain,Aou),(365,.plain,Aox)] ⟨Azb,Azc,trivial⟩ ⟨[(1,.v false [(.int .i64,.nil)]),(2,.box 2 0),(4,.box 4 0),(6,.box 6 0),(7,.v false [(.int .i64,.nil)]),(8,.v false [(.int .i64,.nil)])],[(2,[(.int .i64,.nil),(.sl 3 [.int .i64],.ro)]),(4,[(.int .i64,.nil),(.sl 3 [.int .i64],(.own 7000000))]),(6,[(.int .i64,.nil),(.sl 3 [.int .i64],(.own 7000001))])],[7000000,7000001]⟩ 7000000 [((.exit 0),⟨[(1,.v false [(.int .i64,.nil)]),(2,.box 2 0),(4,.box 4 0),(6,.box 6 0)],[(2,[(.int .i64,.nil),(.sl 3 [.int .i64],.ro)]),(4,[(.int .i64,.nil),(.sl 3 [.int .i64],(.own 7000000))]),(6,[(.int .i64,.nil),(.sl 3 [.int .i64],(.own 7000001))])],[7000000,7000001]⟩)] 6 Jl Tryz.func367 0
def Ath:Ax:=Aw [g_5] (fun d=>(Zj d.1).val) fun r=>([rv g_8 r],[])
theorem A2l:Fn Tryz.prog 378 .plain Ath:=Dj [(360,.plain,Adw),(367,.plain,Aoy)] ⟨Ale,Azd,trivial⟩ ⟨[(0,.v false [(.sl 3 [.int .i64],.ro)]),(2,.box 2 0),(3,.box 3 0),(4,.v false [(.int .i64,.nil)])],[(2,[(.int .i64,.nil),(.sl 3 [.int .i64],(.own 4000000))]),(3,[(.int .i64,.nil),(.sl 3 [.int .i64],(.own 4000001))])],[4000000,4000001]⟩ 4000000 [((.exit 0),⟨[(2,.box 2 0),(3,.box 3 0)],[(2,[(.int .i64,.nil),(.sl 3 [.int .i64],(.own 4000000))]),(3,[(.int .i64,.nil),(.sl 3 [.int .i64],(.own 4000001))])],[4000000,4000001]⟩)] 3 Nu Tryz.func378 0
def Aoz:Ax:=Aw [g_2] (fun d=>(Va d.1).val) fun r=>([rv g_8 r.1],[rv g_2 r.2])
theorem Aze:Fn Tryz.prog 342 (.box [3] true true) Aoz:=mkF [(379,(.box [3] true true),Aot),(378,.plain,Ath)] ⟨Aza,A2l,trivial⟩ Tryz.func342 1
def Alj:Ax:=Aw [g_2,g_3] (fun d=>(Tg d.1 d.2.1).val) fun r=>([rv Ic r.1],[rv g_2 r.2])
theorem Av9:Fn Tryz.prog 264 (.box [3] true true) Alj:=mkF [(128,(.box [3] true true),Ja),(221,.plain,Aap),(127,(.box [3] true true),Hn),(167,(.box [3] true true),Ki),(342,(.box [3] true true),Aoz),(225,.plain,Qf),(299,.plain,Zh)] ⟨Ji,Ah5,Hf,Li,Aze,Td,Ady,trivial⟩ Tryz.func264 1
def Aar:Ax:=Aw [Gi] (fun d=>(Th d.1).val) fun r=>([rv g_1 r],[])
def Nv:Fns:=[(67,.plain,U9),(66,.plain,Dd)]
theorem Aas:CfgOk Tryz.prog (Ec Nv):=Gz Ok K5 (show Lv Tryz.prog Nv from⟨Aan,C6,trivial⟩)
def Ag0:Sk:=⟨[(1,.box 1 0),(3,.v false [(.int .i64,.nil)])],[(1,[(.int .i64,.nil),(.int .i64,.nil),(.sl 86 h_5,.ro)])],[]⟩
def Ag1:List (Ex×Sk):=[(.ret,⟨[(2,.v false [(.bool,.nil)])],[],[]⟩),((.exit 0),⟨[],[],[]⟩)]
def Acb:Sk:=⟨[(1,.box 1 0),(3,.v false [(.int .i64,.nil)]),(4,.box 4 0),(5,.v false [(.int .i64,.nil)])],[(1,[(.int .i64,.nil),(.int .i64,.nil),(.sl 86 h_5,.ro)]),(4,[(.int .i64,.nil),(.int .i64,.nil),(.sl 5 [.int .u8],.ro),(.int .i64,.nil)])],[]⟩
def Acc:List (Ex×Sk):=[(.ret,⟨[(2,.v false [(.bool,.nil)])],[],[]⟩),((.exit 2),⟨[(1,.box 1 0),(3,.v false [(.int .i64,.nil)])],[(1,[(.int .i64,.nil),(.int .i64,.nil),(.sl 86 h_5,.ro)])],[]⟩)]
def Nw:Fy:=fun i st=>cond (Nat.beq i 10) (lam Acb 11000000 Acc F3 st) <| cond (Nat.beq i 4) (lam Ag0 5000000 Ag1 Ig st) <| .fail
theorem Ao0 (cx:Cx) (hp:cx.pin.length≤0):D6 Tryz.prog cx Tryz.f198.ntmps Nw (Bc Tryz.f198 1):=Fv Aas hp (Dt (by kernel_rfl:Bx (Bc Tryz.f198 1)=[]) trivial) (by kernel_rfl) (fun d=>(by kernel_rfl:bod (Ec Nv) 0 Tryz.f198.ntmps Nw (Bc Tryz.f198 1) Acb 11000000 Acc d=F3 d))
theorem Arp (cx:Cx) (hp:cx.pin.length≤0):D6 Tryz.prog cx Tryz.f198.ntmps Nw (Bc Tryz.f198 0):=Fv Aas hp (Dt (by kernel_rfl:Bx (Bc Tryz.f198 0)=[Bc Tryz.f198 1]) ⟨Ao0 cx hp,trivial⟩) (by kernel_rfl) (fun d=>(by kernel_rfl:bod (Ec Nv) 0 Tryz.f198.ntmps Nw (Bc Tryz.f198 0) Ag0 5000000 Ag1 d=Ig d))
theorem Aic:Fn Tryz.prog 198 .plain Aar:=Qa Aas Tryz.func198 (by kernel_rfl) (by kernel_rfl) (fun cx b hp hb=>Dt (by kernel_rfl:Bx (Tryz.f198.body.getD .skip)=[Bc Tryz.f198 0]) ⟨Arp cx hp,trivial⟩ b hb) (fun d=>(by kernel_rfl:H9 (Ec Nv) 0 Nw Tryz.f198 .plain (mkA [Gi] d)=(Th d.1).run fun r=>some ([rv g_1 r],[])))
def Aat:Ax:=Aw [A6s] (fun d=>(Aau d.1).val) fun r=>([rv A6s r],[])
theorem Aid:Fn Tryz.prog 314 .plain Aat:=mkF [] trivial Tryz.func314 0
def Aav:Ax:=Aw [Gi] (fun d=>(Aaw d.1).val) fun r=>([rv Gi r],[])
theorem Aie:Fn Tryz.prog 310 .plain Aav:=Dj [(314,.plain,Aat)] ⟨Aid,trivial⟩ ⟨[(1,.box 1 0),(2,.box 2 0),(3,.box 3 0),(4,.v false [(.int .i64,.nil)])],[(1,[(.int .i64,.nil),(.int .i64,.nil),(.sl 86 h_5,.ro)]),(2,[(.int .i64,.nil),(.int .i64,.nil),(.sl 86 h_5,(.own 4000000))]),(3,[(.int .i64,.nil),(.int .i64,.nil),(.sl 86 h_5,(.own 4000001))])],[4000000,4000001]⟩ 4000000 [((.exit 0),⟨[(2,.box 2 0),(3,.box 3 0)],[(2,[(.int .i64,.nil),(.int .i64,.nil),(.sl 86 h_5,(.own 4000000))]),(3,[(.int .i64,.nil),(.int .i64,.nil),(.sl 86 h_5,(.own 4000001))])],[4000000,4000001]⟩)] 3 Ih Tryz.func310 0
def Aif:Ax:=Aw [Gi,g_3] (fun d=>(Wj d.1 d.2.1).val) fun r=>([rv Gi r],[])
theorem Au1:Fn Tryz.prog 316 .plain Aif:=Dj [(198,.plain,Aar),(66,.plain,Dd),(310,.plain,Aav),(314,.plain,Aat)] ⟨Aic,C6,Aie,Aid,trivial⟩ ⟨[(1,.v false [(.int .i64,.nil)]),(2,.box 2 0),(4,.box 4 0),(5,.box 5 0),(6,.v false [(.int .i64,.nil)])],[(2,[(.int .i64,.nil),(.int .i64,.nil),(.sl 86 h_5,.ro)]),(4,[(.int .i64,.nil),(.int .i64,.nil),(.sl 86 h_5,(.own 6000000))]),(5,[(.int .i64,.nil),(.int .i64,.nil),(.sl 86 h_5,(.own 6000001))])],[6000000,6000001]⟩ 6000000 [((.exit 0),⟨[(4,.box 4 0),(5,.box 5 0)],[(4,[(.int .i64,.nil),(.int .i64,.nil),(.sl 86 h_5,(.own 6000000))]),(5,[(.int .i64,.nil),(.int .i64,.nil),(.sl 86 h_5,(.own 6000001))])],[6000000,6000001]⟩)] 5 Ht Tryz.func316 0
def Ati:Ax:=Aw [Gi,g_3,g_7,g_0] (fun d=>(Aig d.1 d.2.1 d.2.2.1 d.2.2.2.1).val) fun r=>([rv Gi r.1,rv g_1 r.2],[])
theorem A2m:Fn Tryz.prog 195 .plain Ati:=Dj [(198,.plain,Aar),(66,.plain,Dd),(67,.plain,U9),(310,.plain,Aav),(316,.plain,Aif)] ⟨Aic,C6,Aan,Aie,Au1,trivial⟩ ⟨[(1,.v false [(.int .i64,.nil)]),(3,.v false [(.sl 5 [.int .u8],.ro)]),(4,.box 4 0),(6,.box 6 0),(8,.box 8 0),(10,.box 10 0),(11,.v false [(.int .i64,.nil)])],[(4,[(.int .i64,.nil),(.int .i64,.nil),(.sl 86 h_5,.ro)]),(6,[(.int .i64,.nil),(.int .i64,.nil)]),(8,[(.int .i64,.nil),(.int .i64,.nil),(.sl 86 h_5,(.own 6000000))]),(10,[(.int .i64,.nil),(.int .i64,.nil),(.sl 86 h_5,(.own 6000001))])],[6000000,6000001]⟩ 6000000 [(.ret,⟨[(8,.box 8 0),(9,.v false [(.bool,.nil)])],[(8,[(.int .i64,.nil),(.int .i64,.nil),(.sl 86 h_5,(.own 6000000))])],[6000000]⟩),((.exit 0),⟨[(1,.v false [(.int .i64,.nil)]),(3,.v false [(.sl 5 [.int .u8],.ro)]),(4,.box 4 0),(6,.box 6 0),(8,.box 8 0),(10,.box 10 0)],[(4,[(.int .i64,.nil),(.int .i64,.nil),(.sl 86 h_5,.ro)]),(6,[(.int .i64,.nil),(.int .i64,.nil)]),(8,[(.int .i64,.nil),(.int .i64,.nil),(.sl 86 h_5,(.own 6000000))]),(10,[(.int .i64,.nil),(.int .i64,.nil),(.sl 86 h_5,(.own 6000001))])],[6000000,6000001]⟩)] 5 Lj Tryz.func195 0
def Alk:Ax:=Aw [g_2] (fun d=>(Ti d.1).val) fun r=>([rv Gi r.1],[rv g_2 r.2])
theorem Awa:Fn Tryz.prog 265 (.box [3] true true) Alk:=Dj [(175,(.box [3] true true),D9),(197,.plain,Wd),(223,.plain,Wi),(128,(.box [3] true true),Ja),(195,.plain,Ati)] ⟨D5,Zg,Agz,Ji,A2m,trivial⟩ ⟨[(0,.box 0 0),(2,.box 2 0),(3,.box 3 0),(4,.v false [(.int .i64,.nil)]),(5,.v false [(.int .i64,.nil)])],[(0,[(.sl 5 [.int .u8],(.pin 0)),(.int .i64,.nil),(.int .i64,.nil)]),(2,[(.int .i64,.nil),(.int .i64,.nil),(.sl 86 h_5,(.own 5000000))]),(3,[(.int .i64,.nil),(.int .i64,.nil),(.sl 86 h_5,(.own 5000001))])],[5000000,5000001]⟩ 5000000 [((.exit 0),⟨[(0,.box 0 0),(2,.box 2 0),(3,.box 3 0)],[(0,[(.sl 5 [.int .u8],(.pin 0)),(.int .i64,.nil),(.int .i64,.nil)]),(2,[(.int .i64,.nil),(.int .i64,.nil),(.sl 86 h_5,(.own 5000000))]),(3,[(.int .i64,.nil),(.int .i64,.nil),(.sl 86 h_5,(.own 5000001))])],[5000000,5000001]⟩)] 4 Om Tryz.func265 1
def All:Ax:=Aw [g_2] (fun d=>(Tj d.1).val) fun r=>([rv R9 r.1],[rv g_2 r.2])
theorem Awb:Fn Tryz.prog 125 (.box [3] true false) All:=mkF [(128,(.box [3] true true),Ja),(175,(.box [3] true true),D9),(173,(.box [3] true true),Agw),(263,.plain,Ah0),(127,(.box [3] true true),Hn),(197,.plain,Wd),(79,.plain,Alf),(167,(.box [3] true true),Ki),(264,(.box [3] true true),Alj),(265,(.box [3] true true),Alk)] ⟨Ji,D5,Arf,Aux,Hf,Zg,Av6,Li,Av9,Awa,trivial⟩ Tryz.func125 1
def Ao1:Ax:=Aw [g_2] (fun d=>(Ad3 d.1).val) fun r=>([rv g_3 r.1,rv g_0 r.2.1],[rv g_2 r.2.2])
theorem Azf:Fn Tryz.prog 298 (.box [3] true true) Ao1:=mkF [(175,(.box [3] true true),D9),(128,(.box [3] true true),Ja),(127,(.box [3] true true),Hn)] ⟨D5,Ji,Hf,trivial⟩ Tryz.func298 1
def Ad4:Ax:=Aw [g_3,g_0,g_3,g_3] (fun d=>(Ad5 d.1 d.2.1 d.2.2.1 d.2.2.2.1).val) fun r=>([rv g_0 r],[])
theorem Alm:Fn Tryz.prog 312 .plain Ad4:=mkF [(66,.plain,Dd),(217,.plain,O5)] ⟨C6,Ph,trivial⟩ Tryz.func312 0
def Aln:Ax:=Aw [g_0,g_0,g_3] (fun d=>(Aax d.1 d.2.1 d.2.2.1).val) fun r=>([rv g_0 r],[])
theorem Awc:Fn Tryz.prog 405 .plain Aln:=mkF [(66,.plain,Dd),(217,.plain,O5),(319,.plain,Wc)] ⟨C6,Ph,Zf,trivial⟩ Tryz.func405 0
def Ao2:Ax:=Aw [g_0,g_0,g_3] (fun d=>(Ad6 d.1 d.2.1 d.2.2.1).val) fun r=>([rv g_0 r],[])
theorem Azg:Fn Tryz.prog 380 .plain Ao2:=Dj [(66,.plain,Dd),(405,.plain,Aln)] ⟨C6,Awc,trivial⟩ ⟨[(0,.v false [(.sl 5 [.int .u8],.ro)]),(1,.v false [(.sl 5 [.int .u8],.ro)]),(2,.v false [(.int .i64,.nil)]),(7,.v false [(.sl 5 [.int .u8],(.own 6000000))]),(8,.v false [(.int .i64,.nil)])],[],[6000000]⟩ 6000000 [((.exit 0),⟨[(2,.v false [(.int .i64,.nil)]),(7,.v false [(.sl 5 [.int .u8],(.own 6000000))])],[],[6000000]⟩)] 5 Jm Tryz.func380 0
def A00:Ax:=Aw [g_0,g_0,g_0] (fun d=>(Arq d.1 d.2.1 d.2.2.1).val) fun r=>([rv g_0 r],[])
theorem A6y:Fn Tryz.prog 343 .plain A00:=Dj [(380,.plain,Ao2)] ⟨Azg,trivial⟩ ⟨[(2,.v false [(.sl 5 [.int .u8],.ro)]),(7,.v false [(.sl 5 [.int .u8],(.own 7000000))]),(8,.v false [(.sl 5 [.int .u8],(.own 7000001))]),(9,.v false [(.int .i64,.nil)])],[],[7000000,7000001]⟩ 7000000 [((.exit 0),⟨[(7,.v false [(.sl 5 [.int .u8],(.own 7000000))])],[],[7000000]⟩)] 6 Pj Tryz.func343 0
def Aih:Ax:=Aw [g_3,g_4] (fun d=>(Wk d.1 d.2.1).val) fun r=>([rv g_0 r],[])
theorem Au2:Fn Tryz.prog 190 .plain Aih:=mkF [(66,.plain,Dd),(185,.plain,Tb),(86,.plain,U8),(312,.plain,Ad4)] ⟨C6,V8,Aaj,Alm,trivial⟩ Tryz.func190 0
def Am2:Ax:=Aw [g_0,g_3,g_0,g_3,g_3,g_3,g_0] (fun d=>(Ad7 d.1 d.2.1 d.2.2.1 d.2.2.2.1 d.2.2.2.2.1 d.2.2.2.2.2.1 d.2.2.2.2.2.2.1).val) fun r=>([rv g_4 r.1,rv g_1 r.2],[])
def Ad8:Fns:=[(312,.plain,Ad4),(86,.plain,U8),(307,.plain,Ado),(343,.plain,A00),(190,.plain,Aih),(215,.plain,Arn)]
theorem Awd:CfgOk Tryz.prog (Ec Ad8):=Gz Ok K5 (show Lv Tryz.prog Ad8 from⟨Alm,Aaj,Ala,A6y,Au2,Av4,trivial⟩)
def Ao3:Sk:=⟨[(0,.v false [(.sl 5 [.int .u8],.ro)]),(1,.v false [(.int .i64,.nil)]),(14,.box 14 0),(17,.box 17 0),(18,.v false [(.int .i64,.nil)])],[(14,[(.int .i64,.nil),(.int .i64,.nil),(.sl 5 [.int .u8],(.own 7000000)),(.sl 5 [.int .u8],(.own 7000001)),(.int .i64,.nil),(.sl 5 [.int .u8],(.own 7000002)),(.sl 5 [.int .u8],(.own 7000003)),(.int .i64,.nil),(.int .i64,.nil),(.sl 5 [.int .u8],(.own 7000004)),(.sl 5 [.int .u8],(.own 7000005))]),(17,[(.int .i64,.nil),(.int .i64,.nil),(.sl 5 [.int .u8],(.own 7000006)),(.sl 5 [.int .u8],(.own 7000007)),(.int .i64,.nil),(.sl 5 [.int .u8],(.own 7000008)),(.sl 5 [.int .u8],(.own 7000009)),(.int .i64,.nil),(.int .i64,.nil),(.sl 5 [.int .u8],(.own 7000010)),(.sl 5 [.int .u8],(.own 7000011))])],[7000000,7000001,7000002,7000003,7000004,7000005,7000006,7000007,7000008,7000009,7000010,7000011]⟩
def Ao4:List (Ex×Sk):=[((.exit 0),⟨[(0,.v false [(.sl 5 [.int .u8],.ro)]),(1,.v false [(.int .i64,.nil)]),(14,.box 14 0),(17,.box 17 0)],[(14,[(.int .i64,.nil),(.int .i64,.nil),(.sl 5 [.int .u8],(.own 7000000)),(.sl 5 [.int .u8],(.own 7000001)),(.int .i64,.nil),(.sl 5 [.int .u8],(.own 7000002)),(.sl 5 [.int .u8],(.own 7000003)),(.int .i64,.nil),(.int .i64,.nil),(.sl 5 [.int .u8],(.own 7000004)),(.sl 5 [.int .u8],(.own 7000005))]),(17,[(.int .i64,.nil),(.int .i64,.nil),(.sl 5 [.int .u8],(.own 7000006)),(.sl 5 [.int .u8],(.own 7000007)),(.int .i64,.nil),(.sl 5 [.int .u8],(.own 7000008)),(.sl 5 [.int .u8],(.own 7000009)),(.int .i64,.nil),(.int .i64,.nil),(.sl 5 [.int .u8],(.own 7000010)),(.sl 5 [.int .u8],(.own 7000011))])],[7000000,7000001,7000002,7000003,7000004,7000005,7000006,7000007,7000008,7000009,7000010,7000011]⟩)]
def Am3:Fy:=fun i st=>cond (Nat.beq i 6) (lam Ao3 7000000 Ao4 Kj st) <| .fail
theorem Azh (cx:Cx) (hp:cx.pin.length≤0):D6 Tryz.prog cx Tryz.f266.ntmps Am3 (Bc Tryz.f266 0):=Fv Awd hp (Dt (by kernel_rfl:Bx (Bc Tryz.f266 0)=[]) trivial) (by kernel_rfl) (fun d=>(by kernel_rfl:bod (Ec Ad8) 0 Tryz.f266.ntmps Am3 (Bc Tryz.f266 0) Ao3 7000000 Ao4 d=Kj d))
theorem Atj:Fn Tryz.prog 266 .plain Am2:=Qa Awd Tryz.func266 (by kernel_rfl) (by kernel_rfl) (fun cx b hp hb=>Dt (by kernel_rfl:Bx (Tryz.f266.body.getD .skip)=[Bc Tryz.f266 0]) ⟨Azh cx hp,trivial⟩ b hb) (fun d=>(by kernel_rfl:H9 (Ec Ad8) 0 Am3 Tryz.f266 .plain (mkA [g_0,g_3,g_0,g_3,g_3,g_3,g_0] d)=(Ad7 d.1 d.2.1 d.2.2.1 d.2.2.2.1 d.2.2.2.2.1 d.2.2.2.2.2.1 d.2.2.2.2.2.2.1).run fun r=>some ([rv g_4 r.1,rv g_1 r.2],[])))
def Ao5:Ax:=Aw [g_2,g_0] (fun d=>(Ad9 d.1 d.2.1).val) fun r=>([rv g_0 r.1],[rv g_2 r.2])
theorem Azi:Fn Tryz.prog 301 (.box [3] true true) Ao5:=mkF [(175,(.box [3] true true),D9),(269,(.box [3] true true),Qb)] ⟨D5,Ta,trivial⟩ Tryz.func301 1
def Ao6:Ax:=Aw [g_2,g_4] (fun d=>(Aea d.1 d.2.1).val) fun r=>([rv g_4 r.1],[rv g_2 r.2])
theorem Azj:Fn Tryz.prog 177 (.box [3] true true) Ao6:=mkF [(296,.plain,Adt),(175,(.box [3] true true),D9),(127,(.box [3] true true),Hn),(301,(.box [3] true true),Ao5)] ⟨Alc,D5,Hf,Azi,trivial⟩ Tryz.func177 1
def Aii:Ax:=Aw [g_2,Ic] (fun d=>(Wl d.1 d.2.1).val) fun r=>([rv g_4 r.1],[rv g_2 r.2])
theorem Au3:Fn Tryz.prog 174 (.box [3] true true) Aii:=mkF [(298,(.box [3] true true),Ao1),(167,(.box [3] true true),Ki),(299,.plain,Zh),(127,(.box [3] true true),Hn),(266,.plain,Am2),(177,(.box [3] true true),Ao6)] ⟨Azf,Li,Ady,Hf,Atj,Azj,trivial⟩ Tryz.func174 1
def Ag2:Ax:=Aw [g_3] (fun d=>(Uo d.1).val) fun r=>([rv g_0 r],[])
theorem Arr:Fn Tryz.prog 267 .plain Ag2:=mkF [(66,.plain,Dd),(217,.plain,O5)] ⟨C6,Ph,trivial⟩ Tryz.func267 0
def Ao7:Ax:=Aw [g_2] (fun d=>(Aeb d.1).val) fun r=>([rv g_7 r.1],[rv g_2 r.2])
theorem Azk:Fn Tryz.prog 344 (.box [3] true true) Ao7:=mkF [(167,(.box [3] true true),Ki),(175,(.box [3] true true),D9),(269,(.box [3] true true),Qb),(197,.plain,Wd)] ⟨Li,D5,Ta,Zg,trivial⟩ Tryz.func344 1
def Atk:Ax:=Aw [g_2] (fun d=>(Aij d.1).val) fun r=>([rv g_3 r.1],[rv g_2 r.2])
theorem A2n:Fn Tryz.prog 345 (.box [3] true true) Atk:=mkF [(127,(.box [3] true true),Hn)] ⟨Hf,trivial⟩ Tryz.func345 1
def Atl:Ax:=Aw [g_2] (fun d=>(Aik d.1).val) fun r=>([rv g_7 r.1],[rv g_2 r.2])
theorem A2o:Fn Tryz.prog 268 (.box [3] true true) Atl:=mkF [(344,(.box [3] true true),Ao7),(175,(.box [3] true true),D9),(345,(.box [3] true true),Atk),(127,(.box [3] true true),Hn)] ⟨Azk,D5,A2n,Hf,trivial⟩ Tryz.func268 1
def Ail:Ax:=Aw [g_2,R9] (fun d=>(Wm d.1 d.2.1).val) fun r=>([rv g_7 r.1,rv g_4 r.2.1],[rv g_2 r.2.2])
theorem Au4:Fn Tryz.prog 126 (.box [3] true false) Ail:=mkF [(167,(.box [3] true true),Ki),(175,(.box [3] true true),D9),(197,.plain,Wd),(174,(.box [3] true true),Aii),(266,.plain,Am2),(267,.plain,Ag2),(268,(.box [3] true true),Atl)] ⟨Li,D5,Zg,Au3,Atj,Arr,A2o,trivial⟩ Tryz.func126 1
def Aim:Ax:=Aw [g_0] (fun d=>(Wn d.1).val) fun r=>([rv R9 r.1,rv g_3 r.2.1,rv g_7 r.2.2.1,rv g_4 r.2.2.2.1,rv g_0 r.2.2.2.2],[])
theorem Au5:Fn Tryz.prog 27 .view Aim:=mkF [(124,.ret,Ata),(125,(.box [3] true false),All),(126,(.box [3] true false),Ail),(127,(.box [3] true true),Hn),(128,(.box [3] true true),Ja)] ⟨A2f,Awb,Au4,Hf,Ji,trivial⟩ Tryz.func27 0
def Dq:Ax:=Aw [g_0] (fun d=>(Ain d.1).val) fun r=>([rv g_0 r],[])
theorem Dk:Fn Tryz.prog 134 .plain Dq:=mkF [] trivial Tryz.func134 0
def Aay:Ax:=Aw [g_8] (fun d=>(Aaz d.1).val) fun r=>([rv g_8 r],[])
theorem Aio:Fn Tryz.prog 381 .plain Aay:=mkF [] trivial Tryz.func381 0
def Vb:Ax:=Aw [g_9] (fun d=>(Aec d.1).val) fun r=>([rv g_9 r],[])
theorem Aa0:Fn Tryz.prog 346 .plain Vb:=mkF [(134,.plain,Dq),(381,.plain,Aay)] ⟨Dk,Aio,trivial⟩ Tryz.func346 0
def H0:Ax:=Aw [Ic] (fun d=>(Wo d.1).val) fun r=>([rv Ic r],[])
theorem Ii:Fn Tryz.prog 270 .plain H0:=mkF [(134,.plain,Dq),(346,.plain,Vb)] ⟨Dk,Aa0,trivial⟩ Tryz.func270 0
def Ij:Ax:=Aw [Gi] (fun d=>(Up d.1).val) fun r=>([rv Gi r],[])
theorem Jn:Fn Tryz.prog 150 .plain Ij:=Dj [(134,.plain,Dq)] ⟨Dk,trivial⟩ ⟨[(2,.box 2 0),(3,.box 3 0),(10,.v false [(.sl 86 h_5,.ro)]),(11,.v false [(.int .i64,.nil)]),(12,.v false [(.int .i64,.nil)])],[(2,[(.int .i64,.nil),(.int .i64,.nil),(.sl 86 h_5,(.own 4000000))]),(3,[(.int .i64,.nil),(.int .i64,.nil),(.sl 86 h_5,(.own 4000001))])],[4000000,4000001]⟩ 4000000 [((.exit 0),⟨[(2,.box 2 0),(3,.box 3 0)],[(2,[(.int .i64,.nil),(.int .i64,.nil),(.sl 86 h_5,(.own 4000000))]),(3,[(.int .i64,.nil),(.int .i64,.nil),(.sl 86 h_5,(.own 4000001))])],[4000000,4000001]⟩)] 3 Gs Tryz.func150 0
def Aip:Ax:=Aw [R9] (fun d=>(Wp d.1).val) fun r=>([rv R9 r],[])
theorem Au6:Fn Tryz.prog 129 .plain Aip:=mkF [(134,.plain,Dq),(270,.plain,H0),(150,.plain,Ij)] ⟨Dk,Ii,Jn,trivial⟩ Tryz.func129 0
def Ce:Ax:=Aw [g_3,g_3,g_3] (fun d=>(Aed d.1 d.2.1 d.2.2.1).val) fun r=>([rv g_1 r],[])
theorem Ca:Fn Tryz.prog 95 .plain Ce:=mkF [] trivial Tryz.func95 0
def Jc:Ax:=Aw [g_0] (fun d=>(Alo d.1).val) fun r=>([rv g_1 r],[])
theorem Jo:Fn Tryz.prog 140 .plain Jc:=mkF [] trivial Tryz.func140 0
def Ik:Ax:=Aw [g_0,g_0] (fun d=>(Ag3 d.1 d.2.1).val) fun r=>([rv g_1 r],[])
theorem Jp:Fn Tryz.prog 143 .plain Ik:=mkF [] trivial Tryz.func143 0
def Aiq:Ax:=Aw [g_5,g_5] (fun d=>(Wq d.1 d.2.1).val) fun r=>([rv g_1 r],[])
theorem Au7:Fn Tryz.prog 352 .plain Aiq:=Dj [] trivial ⟨[(1,.v false [(.sl 3 [.int .i64],.ro)]),(12,.v false [(.sl 3 [.int .i64],.ro)]),(13,.v false [(.int .i64,.nil)]),(14,.v false [(.int .i64,.nil)])],[],[]⟩ 5000000 [(.ret,⟨[(4,.v false [(.bool,.nil)])],[],[]⟩),((.exit 0),⟨[],[],[]⟩)] 4 Acd Tryz.func352 0
def Aee:Ax:=Aw [g_9,g_9] (fun d=>(Aef d.1 d.2.1).val) fun r=>([rv g_1 r],[])
theorem Alp:Fn Tryz.prog 280 .plain Aee:=mkF [(143,.plain,Ik),(352,.plain,Aiq)] ⟨Jp,Au7,trivial⟩ Tryz.func280 0
def Ace:Ax:=Aw [Ic] (fun d=>(Sa d.1).val) fun r=>([rv g_1 r],[])
theorem Ao8:Fn Tryz.prog 141 .plain Ace:=mkF [(280,.plain,Aee)] ⟨Alp,trivial⟩ Tryz.func141 0
def Qi:Ax:=Aw [g_3] (fun d=>(Aeg d.1).val) fun r=>([rv g_1 r],[])
theorem Tk:Fn Tryz.prog 274 .plain Qi:=mkF [] trivial Tryz.func274 0
def Qj:Ax:=Aw [g_5,g_3] (fun d=>(Wr d.1 d.2.1).val) fun r=>([rv g_1 r],[])
theorem Uq:Fn Tryz.prog 384 .plain Qj:=Dj [(95,.plain,Ce)] ⟨Ca,trivial⟩ ⟨[(0,.v false [(.sl 3 [.int .i64],.ro)]),(1,.v false [(.int .i64,.nil)]),(7,.v false [(.sl 3 [.int .i64],.ro)]),(8,.v false [(.int .i64,.nil)]),(9,.v false [(.int .i64,.nil)])],[],[]⟩ 3000000 [(.ret,⟨[(4,.v false [(.bool,.nil)])],[],[]⟩),((.exit 0),⟨[(0,.v false [(.sl 3 [.int .i64],.ro)]),(1,.v false [(.int .i64,.nil)])],[],[]⟩)] 2 Jq Tryz.func384 0
def Aeh:Ax:=Aw [g_8,g_3] (fun d=>(Aei d.1 d.2.1).val) fun r=>([rv g_1 r],[])
theorem Alq:Fn Tryz.prog 385 .plain Aeh:=mkF [] trivial Tryz.func385 0
def Air:Ax:=Aw [g_8] (fun d=>(Ais d.1).val) fun r=>([rv g_1 r],[])
theorem Ao9:Fn Tryz.prog 353 .plain Air:=Dj [(95,.plain,Ce),(384,.plain,Qj),(385,.plain,Aeh)] ⟨Ca,Uq,Alq,trivial⟩ ⟨[(1,.box 1 0),(3,.v false [(.int .i64,.nil)])],[(1,[(.int .i64,.nil),(.sl 3 [.int .i64],.ro)])],[]⟩ 5000000 [(.ret,⟨[(2,.v false [(.bool,.nil)])],[],[]⟩),((.exit 0),⟨[(1,.box 1 0)],[(1,[(.int .i64,.nil),(.sl 3 [.int .i64],.ro)])],[]⟩)] 4 Lk Tryz.func353 0
def Ws:Ax:=Aw [g_9] (fun d=>(Am4 d.1).val) fun r=>([rv g_1 r],[])
theorem Zk:Fn Tryz.prog 281 .plain Ws:=mkF [(95,.plain,Ce),(353,.plain,Air)] ⟨Ca,Ao9,trivial⟩ Tryz.func281 0
def Atm:Ax:=Aw [Ic] (fun d=>(Ait d.1).val) fun r=>([rv g_1 r],[])
theorem A2p:Fn Tryz.prog 282 .plain Atm:=mkF [(280,.plain,Aee),(281,.plain,Ws),(95,.plain,Ce)] ⟨Alp,Zk,Ca,trivial⟩ Tryz.func282 0
def Is:Ax:=Aw [Ic] (fun d=>(Aej d.1).val) fun r=>([rv g_1 r],[])
theorem Jd:Fn Tryz.prog 142 .plain Is:=mkF [(274,.plain,Qi),(140,.plain,Jc),(281,.plain,Ws),(282,.plain,Atm)] ⟨Tk,Jo,Zk,A2p,trivial⟩ Tryz.func142 0
def M8:Ax:=Aw [g_7] (fun d=>(Aek d.1).val) fun r=>([rv g_1 r],[])
theorem Nx:Fn Tryz.prog 96 .plain M8:=mkF [(95,.plain,Ce)] ⟨Ca,trivial⟩ Tryz.func96 0
def Ny:Ax:=Aw [Gi] (fun d=>(Tl d.1).val) fun r=>([rv g_1 r],[])
def Nz:Fns:=[(96,.plain,M8),(140,.plain,Jc),(95,.plain,Ce)]
theorem Aa1:CfgOk Tryz.prog (Ec Nz):=Gz Ok K5 (show Lv Tryz.prog Nz from⟨Nx,Jo,Ca,trivial⟩)
def Ag4:Sk:=⟨[(1,.box 1 0),(18,.v false [(.sl 86 h_5,.ro)]),(19,.v false [(.int .i64,.nil)]),(20,.v false [(.int .i64,.nil)])],[(1,[(.int .i64,.nil),(.int .i64,.nil),(.sl 86 h_5,.ro)])],[]⟩
def Ag5:List (Ex×Sk):=[(.ret,⟨[(2,.v false [(.bool,.nil)])],[],[]⟩),((.exit 0),⟨[],[],[]⟩)]
def Ag6:Sk:=⟨[(1,.box 1 0),(4,.box 4 0),(18,.v false [(.sl 86 h_5,.ro)]),(19,.v false [(.int .i64,.nil)]),(20,.v false [(.int .i64,.nil)]),(51,.v false [(.sl 86 h_5,.ro)]),(52,.v false [(.int .i64,.nil)]),(53,.v false [(.int .i64,.nil)])],[(1,[(.int .i64,.nil),(.int .i64,.nil),(.sl 86 h_5,.ro)]),(4,[(.int .i64,.nil),(.int .i64,.nil),(.sl 5 [.int .u8],.ro),(.int .i64,.nil)])],[]⟩
def Ag7:List (Ex×Sk):=[(.ret,⟨[(2,.v false [(.bool,.nil)])],[],[]⟩),((.exit 2),⟨[(1,.box 1 0),(18,.v false [(.sl 86 h_5,.ro)]),(19,.v false [(.int .i64,.nil)]),(20,.v false [(.int .i64,.nil)])],[(1,[(.int .i64,.nil),(.int .i64,.nil),(.sl 86 h_5,.ro)])],[]⟩)]
def N0:Fy:=fun i st=>cond (Nat.beq i 9) (lam Ag6 10000000 Ag7 G3 st) <| cond (Nat.beq i 4) (lam Ag4 5000000 Ag5 Il st) <| .fail
theorem Ars (cx:Cx) (hp:cx.pin.length≤0):D6 Tryz.prog cx Tryz.f144.ntmps N0 (Bc Tryz.f144 1):=Fv Aa1 hp (Dt (by kernel_rfl:Bx (Bc Tryz.f144 1)=[]) trivial) (by kernel_rfl) (fun d=>(by kernel_rfl:bod (Ec Nz) 0 Tryz.f144.ntmps N0 (Bc Tryz.f144 1) Ag6 10000000 Ag7 d=G3 d))
theorem Art (cx:Cx) (hp:cx.pin.length≤0):D6 Tryz.prog cx Tryz.f144.ntmps N0 (Bc Tryz.f144 0):=Fv Aa1 hp (Dt (by kernel_rfl:Bx (Bc Tryz.f144 0)=[Bc Tryz.f144 1]) ⟨Ars cx hp,trivial⟩) (by kernel_rfl) (fun d=>(by kernel_rfl:bod (Ec Nz) 0 Tryz.f144.ntmps N0 (Bc Tryz.f144 0) Ag4 5000000 Ag5 d=Il d))
theorem Qk:Fn Tryz.prog 144 .plain Ny:=Qa Aa1 Tryz.func144 (by kernel_rfl) (by kernel_rfl) (fun cx b hp hb=>Dt (by kernel_rfl:Bx (Tryz.f144.body.getD .skip)=[Bc Tryz.f144 0]) ⟨Art cx hp,trivial⟩ b hb) (fun d=>(by kernel_rfl:H9 (Ec Nz) 0 N0 Tryz.f144 .plain (mkA [Gi] d)=(Tl d.1).run fun r=>some ([rv g_1 r],[])))
def Ael:Ax:=Aw [R9] (fun d=>(Aem d.1).val) fun r=>([rv g_1 r],[])
theorem Alr:Fn Tryz.prog 29 .plain Ael:=mkF [(95,.plain,Ce),(140,.plain,Jc),(141,.plain,Ace),(142,.plain,Is),(143,.plain,Ik),(144,.plain,Ny)] ⟨Ca,Jo,Ao8,Jd,Jp,Qk,trivial⟩ Tryz.func29 0
def Ql:Ax:=Aw [g_3] (fun d=>(Aen d.1).val) fun r=>([rv g_1 r],[])
theorem Tm:Fn Tryz.prog 101 .plain Ql:=mkF [(95,.plain,Ce)] ⟨Ca,trivial⟩ Tryz.func101 0
def Apa:Ax:=Aw [g_3,g_3] (fun d=>(Aeo d.1 d.2.1).val) fun r=>([rv g_1 r],[])
theorem Azl:Fn Tryz.prog 283 .plain Apa:=mkF [] trivial Tryz.func283 0
def Ag8:Ax:=Aw [g_4,g_4] (fun d=>(Ur d.1 d.2.1).val) fun r=>([rv g_1 r],[])
theorem Aru:Fn Tryz.prog 163 .plain Ag8:=mkF [(143,.plain,Ik)] ⟨Jp,trivial⟩ Tryz.func163 0
def N3:Ax:=Aw [g_4] (fun d=>(Aa2 d.1).val) fun r=>([rv g_1 r],[])
theorem Qm:Fn Tryz.prog 145 .plain N3:=mkF [(95,.plain,Ce),(140,.plain,Jc),(101,.plain,Ql),(283,.plain,Apa),(163,.plain,Ag8)] ⟨Ca,Jo,Tm,Azl,Aru,trivial⟩ Tryz.func145 0
def Am5:Ax:=Aw [g_0,g_0] (fun d=>(Am6 d.1 d.2.1).val) fun r=>([rv g_3 r],[])
theorem Atn:Fn Tryz.prog 271 .plain Am5:=Dj [] trivial ⟨[(0,.v false [(.sl 5 [.int .u8],.ro)]),(1,.v false [(.sl 5 [.int .u8],.ro)]),(5,.v false [(.int .i64,.nil)]),(13,.v false [(.int .i64,.nil)]),(14,.v false [(.int .i64,.nil)])],[],[]⟩ 6000000 [((.exit 0),⟨[(5,.v false [(.int .i64,.nil)])],[],[]⟩)] 5 Qn Tryz.func271 0
def Apb:Ax:=Aw [] (fun d=>(Aep).val) fun r=>([rv g_8 r],[])
theorem Azm:Fn Tryz.prog 347 .plain Apb:=mkF [] trivial Tryz.func347 0
def Aiu:Ax:=Aw [g_3,g_0] (fun d=>(Zl d.1 d.2.1).val) fun r=>([rv g_9 r],[])
theorem Apc:Fn Tryz.prog 272 .plain Aiu:=mkF [(95,.plain,Ce),(134,.plain,Dq),(347,.plain,Apb)] ⟨Ca,Dk,Azm,trivial⟩ Tryz.func272 0
def Sb:Ax:=Aw [g_0,g_3,g_3] (fun d=>(Awe d.1 d.2.1 d.2.2.1).val) fun r=>([rv g_0 r],[])
theorem Tv:Fn Tryz.prog 328 .plain Sb:=Dj [] trivial ⟨[(1,.v false [(.int .i64,.nil)]),(7,.v false [(.sl 5 [.int .u8],(.own 6000000))]),(8,.v false [(.int .i64,.nil)])],[],[6000000]⟩ 6000000 [((.exit 0),⟨[(7,.v false [(.sl 5 [.int .u8],(.own 6000000))])],[],[6000000]⟩)] 5 Apd Tryz.func328 0
def It:Ax:=Aw [Ba9] (fun d=>(Aeq d.1).val) fun r=>([rv g_0 r],[])
theorem Je:Fn Tryz.prog 275 .plain It:=Dj [] trivial ⟨[(3,.v false [(.sl 5 [.int .u8],(.own 4000000))]),(7,.v false [(.sl 23 [.sl 5 [.int .u8]],.ro)]),(8,.v false [(.int .i64,.nil)]),(9,.v false [(.int .i64,.nil)])],[],[4000000]⟩ 4000000 [((.exit 0),⟨[(3,.v false [(.sl 5 [.int .u8],(.own 4000000))])],[],[4000000]⟩)] 3 Jr Tryz.func275 0
def Vc:Ax:=Aw [g_3,g_0,g_3,g_3] (fun d=>(Aer d.1 d.2.1 d.2.2.1 d.2.2.2.1).val) fun r=>([rv g_0 r],[])
theorem Aa3:Fn Tryz.prog 276 .plain Vc:=mkF [(274,.plain,Qi),(140,.plain,Jc),(95,.plain,Ce),(328,.plain,Sb),(275,.plain,It)] ⟨Tk,Jo,Ca,Tv,Je,trivial⟩ Tryz.func276 0
def Js:Ax:=Aw [g_3,g_4] (fun d=>(Wt d.1 d.2.1).val) fun r=>([rv g_0 r],[])
theorem K9:Fn Tryz.prog 133 .plain Js:=mkF [(274,.plain,Qi),(101,.plain,Ql),(145,.plain,N3),(276,.plain,Vc),(275,.plain,It)] ⟨Tk,Tm,Qm,Aa3,Je,trivial⟩ Tryz.func133 0
def Ape:Ax:=Aw [g_8,g_3] (fun d=>(Aes d.1 d.2.1).val) fun r=>([rv g_1 r],[])
theorem Azn:Fn Tryz.prog 382 .plain Ape:=mkF [(353,.plain,Air),(95,.plain,Ce),(385,.plain,Aeh)] ⟨Ao9,Ca,Alq,trivial⟩ Tryz.func382 0
def Apf:Ax:=Aw [g_8,g_3] (fun d=>(Aet d.1 d.2.1).val) fun r=>([rv g_8 r.1,rv g_1 r.2],[])
theorem Azo:Fn Tryz.prog 348 .plain Apf:=Dj [(381,.plain,Aay),(382,.plain,Ape)] ⟨Aio,Azn,trivial⟩ ⟨[(1,.v false [(.int .i64,.nil)]),(2,.box 2 0),(4,.box 4 0),(6,.box 6 0),(7,.v false [(.int .i64,.nil)])],[(2,[(.int .i64,.nil),(.sl 3 [.int .i64],.ro)]),(4,[(.int .i64,.nil),(.sl 3 [.int .i64],(.own 6000000))]),(6,[(.int .i64,.nil),(.sl 3 [.int .i64],(.own 6000001))])],[6000000,6000001]⟩ 6000000 [((.exit 0),⟨[(1,.v false [(.int .i64,.nil)]),(2,.box 2 0),(4,.box 4 0),(6,.box 6 0)],[(2,[(.int .i64,.nil),(.sl 3 [.int .i64],.ro)]),(4,[(.int .i64,.nil),(.sl 3 [.int .i64],(.own 6000000))]),(6,[(.int .i64,.nil),(.sl 3 [.int .i64],(.own 6000001))])],[6000000,6000001]⟩)] 5 Jt Tryz.func348 0
def Ato:Ax:=Aw [] (fun d=>(Atp).val) fun r=>([rv g_5 r],[])
theorem A2q:Fn Tryz.prog 427 .plain Ato:=mkF [] trivial Tryz.func427 0
def Als:Ax:=Aw [] (fun d=>(Alt).val) fun r=>([rv Avz r],[])
theorem Awf:Fn Tryz.prog 417 .plain Als:=mkF [(427,.plain,Ato)] ⟨A2q,trivial⟩ Tryz.func417 0
def Aeu:Ax:=Aw [Avz] (fun d=>(Aev d.1).val) fun r=>([rv g_1 r],[])
theorem Alu:Fn Tryz.prog 423 .plain Aeu:=mkF [(384,.plain,Qj),(95,.plain,Ce)] ⟨Uq,Ca,trivial⟩ Tryz.func423 0
def A01:Ax:=Aw [g_0,g_3,g_3] (fun d=>(Arv d.1 d.2.1 d.2.2.1).val) fun r=>([rv g_0 r.1,rv g_1 r.2],[])
theorem A6z:Fn Tryz.prog 374 .plain A01:=mkF [] trivial Tryz.func374 0
def Awg:Ax:=Aw [g_0,g_3,g_3] (fun d=>(Am7 d.1 d.2.1 d.2.2.1).val) fun r=>([rv g_3 r.1,rv g_3 r.2.1,rv g_1 r.2.2],[])
theorem A4k:Fn Tryz.prog 327 .plain Awg:=Dj [(374,.plain,A01)] ⟨A6z,trivial⟩ ⟨[(1,.v false [(.int .i64,.nil)]),(2,.v false [(.int .i64,.nil)]),(11,.v false [(.int .i64,.nil)]),(29,.v false [(.sl 5 [.int .u8],(.own 9000000))]),(30,.v false [(.int .i64,.nil)]),(31,.v false [(.int .i64,.nil)])],[],[9000000]⟩ 9000000 [((.exit 0),⟨[(1,.v false [(.int .i64,.nil)]),(2,.v false [(.int .i64,.nil)]),(11,.v false [(.int .i64,.nil)])],[],[]⟩)] 8 M9 Tryz.func327 0
def Arw:Ax:=Aw [g_3,g_3] (fun d=>(Arx d.1 d.2.1).val) fun r=>([rv g_3 r],[])
theorem Awh:Fn Tryz.prog 431 .plain Arw:=mkF [] trivial Tryz.func431 0
def Aiv:Ax:=Aw [g_0] (fun d=>(Qo d.1).val) fun r=>([rv g_5 r],[])
def Mb:Fns:=[(327,.plain,Awg),(431,.plain,Arw)]
theorem Wu:CfgOk Tryz.prog (Ec Mb):=Gz Ok K5 (show Lv Tryz.prog Mb from⟨A4k,Awh,trivial⟩)
def Acf:Sk:=⟨[(3,.v false [(.sl 3 [.int .i64],(.own 10000000))]),(5,.v false [(.int .i64,.nil)])],[],[10000000]⟩
def Acg:List (Ex×Sk):=[((.exit 2),⟨[(3,.v false [(.sl 3 [.int .i64],(.own 10000000))])],[],[10000000]⟩)]
def Ach:Sk:=⟨[(0,.v false [(.sl 5 [.int .u8],.ro)]),(3,.v false [(.sl 3 [.int .i64],(.own 6000000))]),(4,.v false [(.int .i64,.nil)])],[],[6000000]⟩
def Aci:List (Ex×Sk):=[((.exit 0),⟨[(3,.v false [(.sl 3 [.int .i64],(.own 6000000))])],[],[6000000]⟩)]
def Mc:Fy:=fun i st=>cond (Nat.beq i 5) (lam Ach 6000000 Aci Hu st) <| cond (Nat.beq i 9) (lam Acf 10000000 Acg Hv st) <| .fail
theorem Apg (cx:Cx) (hp:cx.pin.length≤0):D6 Tryz.prog cx Tryz.f430.ntmps Mc (Bc Tryz.f430 0):=Fv Wu hp (Dt (by kernel_rfl:Bx (Bc Tryz.f430 0)=[]) trivial) (by kernel_rfl) (fun d=>(by kernel_rfl:bod (Ec Mb) 0 Tryz.f430.ntmps Mc (Bc Tryz.f430 0) Ach 6000000 Aci d=Hu d))
theorem Aph (cx:Cx) (hp:cx.pin.length≤0):D6 Tryz.prog cx Tryz.f430.ntmps Mc (Bc Tryz.f430 1):=Fv Wu hp (Dt (by kernel_rfl:Bx (Bc Tryz.f430 1)=[]) trivial) (by kernel_rfl) (fun d=>(by kernel_rfl:bod (Ec Mb) 0 Tryz.f430.ntmps Mc (Bc Tryz.f430 1) Acf 10000000 Acg d=Hv d))
theorem Au8:Fn Tryz.prog 430 .plain Aiv:=Qa Wu Tryz.func430 (by kernel_rfl) (by kernel_rfl) (fun cx b hp hb=>Dt (by kernel_rfl:Bx (Tryz.f430.body.getD .skip)=[Bc Tryz.f430 0,Bc Tryz.f430 1]) ⟨Apg cx hp,Aph cx hp,trivial⟩ b hb) (fun d=>(by kernel_rfl:H9 (Ec Mb) 0 Mc Tryz.f430 .plain (mkA [g_0] d)=(Qo d.1).run fun r=>some ([rv g_5 r],[])))
theorem A4l (n:Int) (w:World) (h0:0≤n) (h1:n≤63):
  Calls Tryz.prog 432 #[.int .i64 n] w (Ret w (.int .i64 (N4[n.toNat]?.getD 0))):=by
 have hx: ∃x,N4[n.toNat]? =some x:=⟨_,List.getElem?_eq_getElem (by simp[N4];omega)⟩
 obtain⟨x,hx⟩:=hx
 have hcell:(Aiw 358 w Api).cell? ⟨w.heap.size,n.toNat,none⟩=some (.int .i64 x):=by
  rw[Azp];unfold Api;rw[List.getElem?_toArray,List.getElem?_map,hx];rfl
 rw[hx]
 go_enter Tryz.func432,Tryz.ntmps432
 go_wp2_with (first|(refine Au9 rfl 358 _ rfl Api (by kernel_rfl) ?_)|(refine Ava rfl 358 rfl _ _ Apj (by kernel_rfl) (by kernel_rfl) (by kernel_rfl) ?_)|(refine Avb rfl 358 _ _ rfl Api rfl rfl (by kernel_rfl) (by kernel_rfl) (by kernel_rfl) ?_))
 go_ret
 refine Ret.mk rfl ?_
 rw[A4m]
 exact(Co.refl _).alloc _
theorem A4n (n:Int) (w:World) (h0: ¬(0≤n∧n≤63)):
  Calls Tryz.prog 432 #[.int .i64 n] w (Ret w (.int .i64 0)):=by
 by_cases h:n<0
 ·go_enter Tryz.func432,Tryz.ntmps432
  go_wp2_with fail
  go_ret
  exact Ret.mk rfl (Co.refl _)
 ·have h2:63<n:=by omega
  go_enter Tryz.func432,Tryz.ntmps432
  go_wp2_with fail
  go_ret
  exact Ret.mk rfl (Co.refl _)
def Avc:List (Bool×List Sh):=[(false,[.int .i64])]
def Avd (r:YI):List RV×List RV:=([rv (false,[.int .i64]) r],[])
def Ag9:Ax:=Aw Avc (fun d=>(Aha d.1).val) Avd
theorem Ary:Fn Tryz.prog 432 .plain Ag9:=by
 refine⟨?_,Tryz.f432,Tryz.func432,by kernel_rfl,by kernel_rfl⟩
 intro rs res vals w G hv hG hr
 obtain⟨d,x,rfl,h1,h2⟩:=Awi hv
 obtain⟨⟨n,_⟩,_⟩:=d
 cases h1
 subst h2
 match vals,hr with
 |[v],hr=>
  have e:v= .int .i64 n:=hr.1.1.1
  subst e
  refine(?_:Calls Tryz.prog 432 #[.int .i64 n] w (Ret w (.int .i64 (Tw n)))).mono fun e w' h=>A4o (A4p n) h
  unfold Tw
  by_cases h:0≤n∧n≤63
  ·rw[if_pos h];exact A4l n w h.1 h.2
  ·rw[if_neg h];exact A4n n w h

def Atq:Ax:=Aw [g_3,g_3] (fun d=>(Atr d.1 d.2.1).val) fun r=>([rv g_3 r],[])
theorem A2r:Fn Tryz.prog 433 .plain Atq:=mkF [] trivial Tryz.func433 0
def Aix:Ax:=Aw [g_5,g_0] (fun d=>(Qp d.1 d.2.1).val) fun r=>([rv g_5 r],[])
def Md:Fns:=[(384,.plain,Qj),(430,.plain,Aiv),(431,.plain,Arw),(432,.plain,Ag9),(433,.plain,Atq)]
theorem Wv:CfgOk Tryz.prog (Ec Md):=Gz Ok K5 (show Lv Tryz.prog Md from⟨Uq,Au8,Awh,Ary,A2r,trivial⟩)
def Zm:Sk:=⟨[(0,.v false [(.sl 3 [.int .i64],.ro)]),(5,.v false [(.sl 3 [.int .i64],(.own 17000000))]),(133,.v false [(.sl 3 [.int .i64],(.own 17000001))]),(134,.v false [(.int .i64,.nil)]),(135,.v false [(.int .i64,.nil)])],[],[17000000,17000001]⟩
def Zn:List (Ex×Sk):=[((.exit 2),⟨[(5,.v false [(.sl 3 [.int .i64],(.own 17000000))])],[],[17000000]⟩)]
def Acj:Sk:=⟨[(0,.v false [(.sl 3 [.int .i64],.ro)]),(5,.v false [(.sl 3 [.int .i64],(.own 8000000))]),(6,.v false [(.sl 3 [.int .i64],(.own 8000001))]),(7,.v false [(.int .i64,.nil)]),(8,.v false [(.int .i64,.nil)]),(9,.v false [(.int .i64,.nil)]),(10,.v false [(.int .i64,.nil)]),(11,.v false [(.int .i64,.nil)]),(12,.v false [(.int .i64,.nil)]),(13,.v false [(.int .i64,.nil)]),(14,.v false [(.int .i64,.nil)]),(15,.v false [(.int .i64,.nil)])],[],[8000000,8000001]⟩
def Ack:List (Ex×Sk):=[((.exit 0),⟨[(0,.v false [(.sl 3 [.int .i64],.ro)]),(5,.v false [(.sl 3 [.int .i64],(.own 8000000))]),(7,.v false [(.int .i64,.nil)]),(8,.v false [(.int .i64,.nil)]),(9,.v false [(.int .i64,.nil)]),(10,.v false [(.int .i64,.nil)]),(11,.v false [(.int .i64,.nil)]),(12,.v false [(.int .i64,.nil)]),(13,.v false [(.int .i64,.nil)]),(14,.v false [(.int .i64,.nil)])],[],[8000000]⟩)]
def Me:Fy:=fun i st=>cond (Nat.beq i 7) (lam Acj 8000000 Ack F4 st) <| cond (Nat.beq i 16) (lam Zm 17000000 Zn Fm st) <| .fail
theorem Apk (cx:Cx) (hp:cx.pin.length≤0):D6 Tryz.prog cx Tryz.f429.ntmps Me (Bc Tryz.f429 0):=Fv Wv hp (Dt (by kernel_rfl:Bx (Bc Tryz.f429 0)=[]) trivial) (by kernel_rfl) (fun d=>(by kernel_rfl:bod (Ec Md) 0 Tryz.f429.ntmps Me (Bc Tryz.f429 0) Acj 8000000 Ack d=F4 d))
theorem Am8 (cx:Cx) (hp:cx.pin.length≤0):D6 Tryz.prog cx Tryz.f429.ntmps Me (Bc Tryz.f429 1):=Fv Wv hp (Dt (by kernel_rfl:Bx (Bc Tryz.f429 1)=[]) trivial) (by kernel_rfl) (fun d=>(by kernel_rfl:bod (Ec Md) 0 Tryz.f429.ntmps Me (Bc Tryz.f429 1) Zm 17000000 Zn d=Fm d))
theorem Ave:Fn Tryz.prog 429 .plain Aix:=Qa Wv Tryz.func429 (by kernel_rfl) (by kernel_rfl) (fun cx b hp hb=>Dt (by kernel_rfl:Bx (Tryz.f429.body.getD .skip)=[Bc Tryz.f429 0,Bc Tryz.f429 1]) ⟨Apk cx hp,Am8 cx hp,trivial⟩ b hb) (fun d=>(by kernel_rfl:H9 (Ec Md) 0 Me Tryz.f429 .plain (mkA [g_5,g_0] d)=(Qp d.1 d.2.1).run fun r=>some ([rv g_5 r],[])))
def Qq:Ax:=Aw [g_5,g_0] (fun d=>(Qr d.1 d.2.1).val) fun r=>([rv g_5 r.1,rv g_0 r.2],[])
theorem Ww:Fn Tryz.prog 424 .view Qq:=Dj [(429,.plain,Aix)] ⟨Ave,trivial⟩ ⟨[(0,.v false [(.sl 3 [.int .i64],.rd)]),(1,.v false [(.sl 5 [.int .u8],.ro)])],[],[]⟩ 2000000 [((.exit 0),⟨[(0,.v false [(.sl 3 [.int .i64],.rd)]),(1,.v false [(.sl 5 [.int .u8],.ro)])],[],[]⟩)] 1 Ey Tryz.func424 0
def Alv:Ax:=Aw [Avz,g_0] (fun d=>(Aa4 d.1 d.2.1).val) fun r=>([rv Avz r],[])
theorem Awj:Fn Tryz.prog 416 .plain Alv:=mkF [(423,.plain,Aeu),(134,.plain,Dq),(275,.plain,It),(424,.view,Qq)] ⟨Alu,Dk,Je,Ww,trivial⟩ Tryz.func416 0
def A02:Ax:=Aw [g_3] (fun d=>(Arz d.1).val) fun r=>([rv g_0 r],[])
theorem A60:Fn Tryz.prog 425 .plain A02:=Dj [(95,.plain,Ce),(328,.plain,Sb)] ⟨Ca,Tv,trivial⟩ ⟨[(0,.v false [(.int .i64,.nil)]),(3,.v false [(.sl 5 [.int .u8],(.own 5000000))])],[],[5000000]⟩ 5000000 [((.exit 0),⟨[(0,.v false [(.int .i64,.nil)]),(3,.v false [(.sl 5 [.int .u8],(.own 5000000))])],[],[5000000]⟩)] 4 Mf Tryz.func425 0
def Ahb:Ax:=Aw [g_5] (fun d=>(Us d.1).val) fun r=>([rv g_0 r],[])
theorem Ar0:Fn Tryz.prog 426 .plain Ahb:=Dj [(328,.plain,Sb)] ⟨Tv,trivial⟩ ⟨[(3,.v false [(.sl 5 [.int .u8],(.own 4000000))]),(7,.v false [(.sl 3 [.int .i64],.ro)]),(8,.v false [(.int .i64,.nil)]),(9,.v false [(.int .i64,.nil)])],[],[4000000]⟩ 4000000 [((.exit 0),⟨[(3,.v false [(.sl 5 [.int .u8],(.own 4000000))])],[],[4000000]⟩)] 3 Gt Tryz.func426 0
def Alw:Ax:=Aw [Avz] (fun d=>(Aa5 d.1).val) fun r=>([rv g_0 r],[])
theorem Awk:Fn Tryz.prog 415 .plain Alw:=mkF [(423,.plain,Aeu),(425,.plain,A02),(275,.plain,It),(424,.view,Qq),(426,.plain,Ahb)] ⟨Alu,A60,Je,Ww,Ar0,trivial⟩ Tryz.func415 0
def Ar1:Ax:=Aw [g_0] (fun d=>(Ar2 d.1).val) fun r=>([rv g_0 r],[])
theorem Awl:Fn Tryz.prog 401 .plain Ar1:=mkF [(417,.plain,Als),(416,.plain,Alv),(415,.plain,Alw)] ⟨Awf,Awj,Awk,trivial⟩ Tryz.func401 0
def Aiy:Ax:=Aw [g_0] (fun d=>(Wx d.1).val) fun r=>([rv g_0 r],[])
theorem Avf:Fn Tryz.prog 400 .plain Aiy:=Dj [(134,.plain,Dq),(401,.plain,Ar1)] ⟨Dk,Awl,trivial⟩ ⟨[(3,.v false [(.sl 5 [.int .u8],(.own 7000000))])],[],[7000000]⟩ 7000000 [((.exit 0),⟨[(3,.v false [(.sl 5 [.int .u8],(.own 7000000))])],[],[7000000]⟩)] 6 Fc Tryz.func400 0
def Apl:Ax:=Aw [g_0,Bba] (fun d=>(Aew d.1 d.2.1).val) fun r=>([rv g_0 r],[])
theorem Azq:Fn Tryz.prog 402 .plain Apl:=Dj [] trivial ⟨[(1,.v false [(.int .u8,.nil)]),(5,.v false [(.sl 5 [.int .u8],(.own 4000000))]),(9,.v false [(.sl 5 [.int .u8],.ro)]),(10,.v false [(.int .i64,.nil)]),(11,.v false [(.int .i64,.nil)])],[],[4000000]⟩ 4000000 [((.exit 0),⟨[(5,.v false [(.sl 5 [.int .u8],(.own 4000000))])],[],[4000000]⟩)] 3 Ju Tryz.func402 0
def Aex:Ax:=Aw [g_0,g_0] (fun d=>(Am9 d.1 d.2.1).val) fun r=>([rv g_0 r],[])
theorem Aiz:Fn Tryz.prog 375 .plain Aex:=mkF [(400,.plain,Aiy),(402,.plain,Apl),(275,.plain,It),(401,.plain,Ar1)] ⟨Avf,Azq,Je,Awl,trivial⟩ Tryz.func375 0
def Ar3:Ax:=Aw [g_0,g_0] (fun d=>(Ar4 d.1 d.2.1).val) fun r=>([rv g_0 r],[])
theorem Awm:Fn Tryz.prog 330 .plain Ar3:=mkF [(375,.plain,Aex),(134,.plain,Dq)] ⟨Aiz,Dk,trivial⟩ Tryz.func330 0
def Alx:Ax:=Aw [g_0,g_0] (fun d=>(Aa6 d.1 d.2.1).val) fun r=>([rv g_1 r],[])
theorem Awn:Fn Tryz.prog 333 .plain Alx:=mkF [(271,.plain,Am5)] ⟨Atn,trivial⟩ Tryz.func333 0
def Aly:Ax:=Aw [g_0,g_0,g_3] (fun d=>(Aa7 d.1 d.2.1 d.2.2.1).val) fun r=>([rv g_0 r],[])
theorem Awo:Fn Tryz.prog 420 .plain Aly:=mkF [(95,.plain,Ce),(275,.plain,It),(328,.plain,Sb),(375,.plain,Aex)] ⟨Ca,Je,Tv,Aiz,trivial⟩ Tryz.func420 0
def Apm:Ax:=Aw [g_0,g_0,g_3] (fun d=>(Aey d.1 d.2.1 d.2.2.1).val) fun r=>([rv g_0 r],[])
theorem Azr:Fn Tryz.prog 406 .plain Apm:=Dj [(95,.plain,Ce),(420,.plain,Aly),(134,.plain,Dq)] ⟨Ca,Awo,Dk,trivial⟩ ⟨[(0,.v false [(.sl 5 [.int .u8],.ro)]),(1,.v false [(.sl 5 [.int .u8],.ro)]),(2,.v false [(.int .i64,.nil)]),(7,.v false [(.sl 5 [.int .u8],(.own 6000000))]),(8,.v false [(.int .i64,.nil)])],[],[6000000]⟩ 6000000 [((.exit 0),⟨[(2,.v false [(.int .i64,.nil)]),(7,.v false [(.sl 5 [.int .u8],(.own 6000000))])],[],[6000000]⟩)] 5 Jv Tryz.func406 0
def Ar5:Ax:=Aw [g_0,g_0,g_0] (fun d=>(Ar6 d.1 d.2.1 d.2.2.1).val) fun r=>([rv g_0 r],[])
theorem Awp:Fn Tryz.prog 383 .plain Ar5:=Dj [(406,.plain,Apm)] ⟨Azr,trivial⟩ ⟨[(2,.v false [(.sl 5 [.int .u8],.ro)]),(7,.v false [(.sl 5 [.int .u8],(.own 6000000))]),(28,.v false [(.sl 5 [.int .u8],(.own 6000001))]),(29,.v false [(.int .i64,.nil)]),(30,.v false [(.int .i64,.nil)])],[],[6000000,6000001]⟩ 6000000 [((.exit 0),⟨[(7,.v false [(.sl 5 [.int .u8],(.own 6000000))])],[],[6000000]⟩)] 5 Pk Tryz.func383 0
def Apn:Ax:=Aw [g_0,g_3,g_4] (fun d=>(Aez d.1 d.2.1 d.2.2.1).val) fun r=>([rv g_0 r.1,rv g_1 r.2],[])
theorem Azs:Fn Tryz.prog 349 .plain Apn:=mkF [(133,.plain,Js),(330,.plain,Ar3),(333,.plain,Alx),(276,.plain,Vc),(383,.plain,Ar5)] ⟨K9,Awm,Awn,Aa3,Awp,trivial⟩ Tryz.func349 0
def Apo:Ax:=Aw [g_9,g_3,g_4] (fun d=>(Ae0 d.1 d.2.1 d.2.2.1).val) fun r=>([rv g_9 r.1,rv g_0 r.2.1,rv g_3 r.2.2],[])
theorem Azt:Fn Tryz.prog 273 .plain Apo:=mkF [(346,.plain,Vb),(281,.plain,Ws),(133,.plain,Js),(348,.plain,Apf),(349,.plain,Apn)] ⟨Aa0,Zk,K9,Azo,Azs,trivial⟩ Tryz.func273 0
def Ai0:Ax:=Aw [Ic,g_3,g_4] (fun d=>(Wy d.1 d.2.1 d.2.2.1).val) fun r=>([rv Ic r.1,rv g_0 r.2.1,rv g_3 r.2.2],[])
theorem Avg:Fn Tryz.prog 130 .plain Ai0:=mkF [(270,.plain,H0),(142,.plain,Is),(95,.plain,Ce),(101,.plain,Ql),(145,.plain,N3),(271,.plain,Am5),(272,.plain,Aiu),(273,.plain,Apo)] ⟨Ii,Jd,Ca,Tm,Qm,Atn,Apc,Azt,trivial⟩ Tryz.func130 0
def App:Ax:=Aw [Ic,g_3] (fun d=>(Ae1 d.1 d.2.1).val) fun r=>([rv g_0 r.1,rv g_1 r.2],[])
theorem Azu:Fn Tryz.prog 131 .plain App:=mkF [(142,.plain,Is),(134,.plain,Dq)] ⟨Jd,Dk,trivial⟩ Tryz.func131 0
def Awq:Ax:=Aw [g_0,g_0,g_0] (fun d=>(Ana d.1 d.2.1 d.2.2.1).val) fun r=>([rv A2d r],[])
theorem A4q:Fn Tryz.prog 132 .plain Awq:=mkF [(134,.plain,Dq)] ⟨Dk,trivial⟩ Tryz.func132 0
def Vd:Ax:=Aw [Gi,g_7] (fun d=>(Ae2 d.1 d.2.1).val) fun r=>([rv g_3 r],[])
theorem Aa8:Fn Tryz.prog 149 .plain Vd:=Dj [] trivial ⟨[(3,.box 3 0),(8,.v false [(.sl 86 h_5,.ro)]),(9,.v false [(.int .i64,.nil)]),(10,.v false [(.int .i64,.nil)])],[(3,[(.int .i64,.nil),(.int .i64,.nil)])],[]⟩ 3000000 [(.ret,⟨[(4,.v false [(.int .i64,.nil)])],[],[]⟩),((.exit 0),⟨[],[],[]⟩)] 2 Mg Tryz.func149 0
def Apq:Ax:=Aw [Gi,g_3,g_7,g_0] (fun d=>(Ve d.1 d.2.1 d.2.2.1 d.2.2.2.1).val) fun r=>([rv Gi r.1,rv g_1 r.2],[])
theorem Azv:Fn Tryz.prog 135 .plain Apq:=mkF [(150,.plain,Ij),(149,.plain,Vd),(144,.plain,Ny),(95,.plain,Ce),(143,.plain,Ik)] ⟨Jn,Aa8,Qk,Ca,Jp,trivial⟩ Tryz.func135 0
def Ut:Ax:=Aw [g_3] (fun d=>(Uu d.1).val) fun r=>([rv g_0 r],[])
theorem Acl:Fn Tryz.prog 293 .plain Ut:=mkF [(95,.plain,Ce),(328,.plain,Sb)] ⟨Ca,Tv,trivial⟩ Tryz.func293 0
def Apr:Ax:=Aw [g_0,g_0,g_3] (fun d=>(Ae3 d.1 d.2.1 d.2.2.1).val) fun r=>([rv g_0 r.1,rv g_1 r.2],[])
theorem Azw:Fn Tryz.prog 356 .plain Apr:=Dj [(95,.plain,Ce),(275,.plain,It),(375,.plain,Aex),(134,.plain,Dq)] ⟨Ca,Je,Aiz,Dk,trivial⟩ ⟨[(0,.v false [(.sl 5 [.int .u8],.ro)]),(1,.v false [(.sl 5 [.int .u8],.ro)]),(2,.v false [(.int .i64,.nil)]),(8,.v false [(.sl 5 [.int .u8],(.own 7000000))]),(9,.v false [(.sl 5 [.int .u8],(.own 7000001))]),(10,.v false [(.int .i64,.nil)])],[],[7000000,7000001]⟩ 7000000 [((.exit 0),⟨[(2,.v false [(.int .i64,.nil)]),(8,.v false [(.sl 5 [.int .u8],(.own 7000000))])],[],[7000000]⟩)] 6 Jw Tryz.func356 0
def Aps:Ax:=Aw [g_0,g_6] (fun d=>(Ae4 d.1 d.2.1).val) fun r=>([rv g_0 r],[])
theorem Azx:Fn Tryz.prog 292 .plain Aps:=mkF [(356,.plain,Apr)] ⟨Azw,trivial⟩ Tryz.func292 0
def Awr:Ax:=Aw [Ic] (fun d=>(Anb d.1).val) fun r=>([rv Ic r.1,rv g_1 r.2],[])
theorem A4r:Fn Tryz.prog 350 .plain Awr:=mkF [(270,.plain,H0),(142,.plain,Is),(292,.plain,Aps),(272,.plain,Aiu)] ⟨Ii,Jd,Azx,Apc,trivial⟩ Tryz.func350 0
def Ahc:Ax:=Aw [Ic,g_3,g_0] (fun d=>(Uv d.1 d.2.1 d.2.2.1).val) fun r=>([rv Ic r.1,rv g_3 r.2],[])
theorem Ar7:Fn Tryz.prog 277 .plain Ahc:=mkF [(270,.plain,H0),(142,.plain,Is),(95,.plain,Ce),(293,.plain,Ut),(143,.plain,Ik),(350,.plain,Awr)] ⟨Ii,Jd,Ca,Acl,Jp,A4r,trivial⟩ Tryz.func277 0
def Aws:Ax:=Aw [g_0,g_3,g_0,g_3,g_3,g_3,g_0] (fun d=>(Anc d.1 d.2.1 d.2.2.1 d.2.2.2.1 d.2.2.2.2.1 d.2.2.2.2.2.1 d.2.2.2.2.2.2.1).val) fun r=>([rv g_4 r.1,rv g_1 r.2],[])
theorem A4s:Fn Tryz.prog 351 .plain Aws:=mkF [(134,.plain,Dq),(274,.plain,Qi),(101,.plain,Ql),(145,.plain,N3),(276,.plain,Vc),(383,.plain,Ar5),(133,.plain,Js),(330,.plain,Ar3)] ⟨Dk,Tk,Tm,Qm,Aa3,Awp,K9,Awm,trivial⟩ Tryz.func351 0
def Apt:Ax:=Aw [g_9,g_3,g_0,g_3,g_0] (fun d=>(Vf d.1 d.2.1 d.2.2.1 d.2.2.2.1 d.2.2.2.2.1).val) fun r=>([rv g_9 r.1,rv g_4 r.2.1,rv g_3 r.2.2],[])
theorem Azy:Fn Tryz.prog 279 .plain Apt:=mkF [(346,.plain,Vb),(281,.plain,Ws),(351,.plain,Aws)] ⟨Aa0,Zk,A4s,trivial⟩ Tryz.func279 0
def Wz:Ax:=Aw [Ic,g_3,g_0] (fun d=>(Qs d.1 d.2.1 d.2.2.1).val) fun r=>([rv Ic r.1,rv g_4 r.2.1,rv g_3 r.2.2],[])
theorem Ahd:Fn Tryz.prog 138 .plain Wz:=mkF [(270,.plain,H0),(142,.plain,Is),(279,.plain,Apt)] ⟨Ii,Jd,Azy,trivial⟩ Tryz.func138 0
def A03:Ax:=Aw [Ic] (fun d=>(Ar8 d.1).val) fun r=>([rv Ic r.1,rv g_4 r.2.1,rv g_3 r.2.2],[])
theorem A61:Fn Tryz.prog 200 .plain A03:=mkF [(142,.plain,Is),(270,.plain,H0),(293,.plain,Ut),(138,.plain,Wz)] ⟨Jd,Ii,Acl,Ahd,trivial⟩ Tryz.func200 0
def Awt:Ax:=Aw [g_0,g_0] (fun d=>(Ane d.1 d.2.1).val) fun r=>([rv A2d r],[])
theorem A4t:Fn Tryz.prog 245 .plain Awt:=mkF [(134,.plain,Dq)] ⟨Dk,trivial⟩ Tryz.func245 0
def Ae5:Ax:=Aw [Ic,g_4] (fun d=>(Ae6 d.1 d.2.1).val) fun r=>([rv A2d r],[])
theorem Alz:Fn Tryz.prog 139 .plain Ae5:=mkF [(133,.plain,Js),(245,.plain,Awt)] ⟨K9,A4t,trivial⟩ Tryz.func139 0
def Ahe:Ax:=Aw [R9,g_3,g_0] (fun d=>(On d.1 d.2.1 d.2.2.1).val) fun r=>([rv R9 r.1,rv A6t r.2.1,rv A6u r.2.2],[])
theorem Ar9:Fn Tryz.prog 136 (.lend [2]) Ahe:=mkF [(277,.plain,Ahc),(134,.plain,Dq),(200,.plain,A03),(139,.plain,Ae5)] ⟨Ar7,Dk,A61,Alz,trivial⟩ Tryz.func136 1
def Tx:Ax:=Aw [Gi,g_3] (fun d=>(Iu d.1 d.2.1).val) fun r=>([rv Gi r],[])
def Iv:Fns:=[(150,.plain,Ij)]
theorem Tz:CfgOk Tryz.prog (Ec Iv):=Gz Ok K5 (show Lv Tryz.prog Iv from⟨Jn,trivial⟩)
def Qt:Sk:=⟨[(1,.v false [(.int .i64,.nil)]),(4,.box 4 0),(5,.box 5 0),(13,.v false [(.sl 86 h_5,(.own 4000000))]),(14,.v false [(.int .i64,.nil)]),(15,.v false [(.int .i64,.nil)])],[(4,[(.int .i64,.nil),(.int .i64,.nil),(.sl 86 h_5,(.own 4000001))]),(5,[(.int .i64,.nil),(.int .i64,.nil),(.sl 86 h_5,(.own 4000002))])],[4000000,4000001,4000002]⟩
def Qu:List (Ex×Sk):=[((.exit 0),⟨[(4,.box 4 0),(5,.box 5 0)],[(4,[(.int .i64,.nil),(.int .i64,.nil),(.sl 86 h_5,(.own 4000000))]),(5,[(.int .i64,.nil),(.int .i64,.nil),(.sl 86 h_5,(.own 4000001))])],[4000000,4000001]⟩)]
def Mh:Fy:=fun i st=>cond (Nat.beq i 3) (lam Qt 4000000 Qu D0 st) <| .fail
theorem Acm (cx:Cx) (hp:cx.pin.length≤0):D6 Tryz.prog cx Tryz.f278.ntmps Mh (Bc Tryz.f278 0):=A62 Tz hp (Dt (by kernel_rfl:Bx (Bc Tryz.f278 0)=[]) trivial) 13 15 4500000 (by kernel_rfl) (by kernel_rfl) (fun d=>(by kernel_rfl:A63 (Ec Iv) 0 Tryz.f278.ntmps Mh (Bc Tryz.f278 0) Qt 4000000 Qu 13 15 4500000 d=D0 d))
theorem Ahq:Fn Tryz.prog 278 .plain Tx:=Qa Tz Tryz.func278 (by kernel_rfl) (by kernel_rfl) (fun cx b hp hb=>Dt (by kernel_rfl:Bx (Tryz.f278.body.getD .skip)=[Bc Tryz.f278 0]) ⟨Acm cx hp,trivial⟩ b hb) (fun d=>(by kernel_rfl:H9 (Ec Iv) 0 Mh Tryz.f278 .plain (mkA [Gi,g_3] d)=(Iu d.1 d.2.1).run fun r=>some ([rv Gi r],[])))
def Ats:Ax:=Aw [Gi,g_3,g_7,g_0] (fun d=>(T0 d.1 d.2.1 d.2.2.1 d.2.2.2.1).val) fun r=>([rv Gi r.1,rv g_1 r.2],[])
theorem A2s:Fn Tryz.prog 137 .plain Ats:=mkF [(144,.plain,Ny),(95,.plain,Ce),(96,.plain,M8),(140,.plain,Jc),(150,.plain,Ij),(278,.plain,Tx),(149,.plain,Vd),(134,.plain,Dq)] ⟨Qk,Ca,Nx,Jo,Jn,Ahq,Aa8,Dk,trivial⟩ Tryz.func137 0
def Ai1:Ax:=Aw [R9,g_3,g_7,g_4,g_0] (fun d=>(Qv d.1 d.2.1 d.2.2.1 d.2.2.2.1 d.2.2.2.2.1).val) fun r=>([rv R9 r.1,rv A6t r.2.1,rv A6u r.2.2.1,rv g_1 r.2.2.2],[])
theorem Avh:Fn Tryz.prog 28 .plain Ai1:=mkF [(129,.plain,Aip),(29,.plain,Ael),(96,.plain,M8),(130,.plain,Ai0),(131,.plain,App),(133,.plain,Js),(132,.plain,Awq),(134,.plain,Dq),(135,.plain,Apq),(136,(.lend [2]),Ahe),(137,.plain,Ats),(138,.plain,Wz),(139,.plain,Ae5)] ⟨Au6,Alr,Nx,Avg,Azu,K9,A4q,Dk,Azv,Ar9,A2s,Ahd,Alz,trivial⟩ Tryz.func28 0
def Apu:Ax:=Aw [A6t] (fun d=>(Ae7 d.1).val) fun r=>([rv g_1 r],[])
theorem Azz:Fn Tryz.prog 30 .plain Apu:=Dj [(145,.plain,N3),(96,.plain,M8)] ⟨Qm,Nx,trivial⟩ ⟨[(0,.v false [(.sl 90 A2c,.ro)]),(3,.v false [(.int .i64,.nil)])],[],[]⟩ 3000000 [(.ret,⟨[(2,.v false [(.bool,.nil)])],[],[]⟩),((.exit 0),⟨[],[],[]⟩)] 2 Jx Tryz.func30 0
def Al0:Ax:=Aw [g_0,g_3] (fun d=>(Aa9 d.1 d.2.1).val) fun r=>([rv g_1 r],[])
theorem Awu:Fn Tryz.prog 284 .plain Al0:=mkF [] trivial Tryz.func284 0
def Apv:Ax:=Aw [A2d] (fun d=>(Ae8 d.1).val) fun r=>([rv g_1 r],[])
theorem Az0:Fn Tryz.prog 146 .plain Apv:=mkF [(95,.plain,Ce),(284,.plain,Al0),(96,.plain,M8)] ⟨Ca,Awu,Nx,trivial⟩ Tryz.func146 0
def Al1:Ax:=Aw [A6u] (fun d=>(Aba d.1).val) fun r=>([rv g_1 r],[])
theorem Awv:Fn Tryz.prog 31 .plain Al1:=Dj [(146,.plain,Apv)] ⟨Az0,trivial⟩ ⟨[(0,.v false [(.sl 113 h_9,.ro)]),(3,.v false [(.int .i64,.nil)])],[],[]⟩ 3000000 [(.ret,⟨[(2,.v false [(.bool,.nil)])],[],[]⟩),((.exit 0),⟨[],[],[]⟩)] 2 Im Tryz.func31 0
def Sc:Ax:=Aw [g_0,g_0] (fun d=>(Anf d.1 d.2.1).val) fun r=>([rv g_1 r],[])
theorem T4:Fn Tryz.prog 34 .plain Sc:=mkF [] trivial Tryz.func34 0
def Ai2:Ax:=Aw [g_5,g_5] (fun d=>(W0 d.1 d.2.1).val) fun r=>([rv g_1 r],[])
theorem Avi:Fn Tryz.prog 386 .plain Ai2:=Dj [] trivial ⟨[(0,.v false [(.sl 3 [.int .i64],.ro)]),(1,.v false [(.sl 3 [.int .i64],.ro)]),(5,.v false [(.int .i64,.nil)])],[],[]⟩ 5000000 [(.ret,⟨[(4,.v false [(.bool,.nil)])],[],[]⟩),((.exit 0),⟨[],[],[]⟩)] 4 Hw Tryz.func386 0
def Al2:Ax:=Aw [g_8,g_8] (fun d=>(Abb d.1 d.2.1).val) fun r=>([rv g_1 r],[])
theorem Aww:Fn Tryz.prog 354 .plain Al2:=mkF [(386,.plain,Ai2)] ⟨Avi,trivial⟩ Tryz.func354 0
def Apw:Ax:=Aw [g_9,g_9] (fun d=>(Ae9 d.1 d.2.1).val) fun r=>([rv g_1 r],[])
theorem Az1:Fn Tryz.prog 285 .plain Apw:=mkF [(34,.plain,Sc),(354,.plain,Al2)] ⟨T4,Aww,trivial⟩ Tryz.func285 0
def Ai3:Ax:=Aw [Ic,Ic] (fun d=>(W1 d.1 d.2.1).val) fun r=>([rv g_1 r],[])
theorem Avj:Fn Tryz.prog 147 .plain Ai3:=mkF [(34,.plain,Sc),(285,.plain,Apw)] ⟨T4,Az1,trivial⟩ Tryz.func147 0
def Ahf:Ax:=Aw [Gi,Gi] (fun d=>(Uw d.1 d.2.1).val) fun r=>([rv g_1 r],[])
theorem Asa:Fn Tryz.prog 148 .plain Ahf:=Dj [(34,.plain,Sc)] ⟨T4,trivial⟩ ⟨[(2,.box 2 0),(3,.box 3 0),(5,.v false [(.int .i64,.nil)])],[(2,[(.int .i64,.nil),(.int .i64,.nil),(.sl 86 h_5,.ro)]),(3,[(.int .i64,.nil),(.int .i64,.nil),(.sl 86 h_5,.ro)])],[]⟩ 5000000 [(.ret,⟨[(4,.v false [(.bool,.nil)])],[],[]⟩),((.exit 0),⟨[],[],[]⟩)] 4 Gu Tryz.func148 0
def Ai4:Ax:=Aw [R9,R9] (fun d=>(W2 d.1 d.2.1).val) fun r=>([rv g_1 r],[])
theorem Avk:Fn Tryz.prog 32 .plain Ai4:=mkF [(34,.plain,Sc),(147,.plain,Ai3),(148,.plain,Ahf)] ⟨T4,Avj,Asa,trivial⟩ Tryz.func32 0
def Apx:Ax:=Aw [Gi,g_7] (fun d=>(Vg d.1 d.2.1).val) fun r=>([rv A6s r.1,rv g_1 r.2],[])
theorem Az2:Fn Tryz.prog 33 .plain Apx:=mkF [(149,.plain,Vd),(144,.plain,Ny),(150,.plain,Ij)] ⟨Aa8,Qk,Jn,trivial⟩ Tryz.func33 0
end
end Go.Proofs.YtmhhajdeafijmaaGreat

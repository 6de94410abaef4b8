/-
  That the functions of the seat answer what the terms of text W say; nothing is assumed.
-/
import Derived.Test.YtmhhajdeafijmaaW
import Derived.Test.YtmhhajdeafijmaaProg
import Derived.KernelRfl
namespace Go.Proofs.Ytmhhajdeafijmaa
open Go.RowKit
set_option linter.unusedVariables false
set_option maxRecDepth 100000
set_option maxHeartbeats 4000000
noncomputable section
abbrev h_0:List Sh:=[.int .i64,.int .i64,.bool,.int .u8]
abbrev h_1:List Sh:=[.sl 5 [.int .u8],.int .i64,.int .i64]
abbrev h_2:List Sh:=[.sl 3 [.int .i64],.sl 5 [.int .u8],.int .i64]
abbrev h_3:List Sh:=[.int .i64,.int .i64,.int .i64,.sl 5 [.int .u8]]
abbrev h_4:List Sh:=[.int .i64,.int .i64,.int .i64,.int .i64,.sl 5 [.int .u8]]
abbrev h_5:List Sh:=[.int .i64,.int .i64,.sl 5 [.int .u8],.sl 5 [.int .u8],.int .i64,.sl 5 [.int .u8],.sl 5 [.int .u8],.int .i64,.int .i64,.sl 5 [.int .u8],.sl 5 [.int .u8]]
abbrev g_0:Bool×List Sh:=(false,[.sl 5 [.int .u8]])
abbrev g_1:Bool×List Sh:=(false,[.bool])
abbrev g_2:Bool×List Sh:=(true,h_1)
abbrev g_3:Bool×List Sh:=(false,[.int .i64])
abbrev g_4:Bool×List Sh:=(false,[.sl 3 [.int .i64]])
abbrev g_5:Bool×List Sh:=(true,h_3)
abbrev g_6:Bool×List Sh:=(false,[.sl 42 h_3])
abbrev g_7:Bool×List Sh:=(true,[.int .i64,.int .i64])
abbrev g_8:Bool×List Sh:=(true,h_5)
abbrev g_9:Bool×List Sh:=(true,h_4)
abbrev Xi:Bool×List Sh:=(false,[.sl 72 h_4])
abbrev Q8:Bool×List Sh:=(false,[.sl 22 [.sl 5 [.int .u8]]])
abbrev Aa4:Bool×List Sh:=(true,h_2)
abbrev Ama:Bool×List Sh:=(false,[.int .u8])
abbrev Ak3:Bool×List Sh:=(false,[.str])
def tys:List (Nat×Ty):=[(3,⟨false,[.int .i64],[],false,[]⟩),
 (4,⟨false,[.bool],[],false,[]⟩),
 (5,⟨false,[.int .u8],[],false,[]⟩),
 (9,⟨false,[.str],[],false,[]⟩),
 (22,⟨false,[.sl 5 [.int .u8]],[],false,[]⟩),
 (26,⟨false,[.sl 42 h_3],[],false,[]⟩),
 (29,⟨true,h_5,[(0,1),(1,1),(2,1),(3,1),(4,1),(5,1),(6,1),(7,1),(8,1),(9,1),(10,1)],false,[]⟩),
 (32,⟨false,[.sl 22 [.sl 5 [.int .u8]]],[],false,[]⟩),
 (35,⟨false,[.sl 72 h_4],[],false,[]⟩),
 (42,⟨true,h_3,[(0,1),(1,1),(2,1),(3,1)],false,[]⟩),
 (48,⟨false,[.sl 3 [.int .i64]],[],false,[]⟩),
 (70,⟨true,[.int .i64,.int .i64],[(0,1),(1,1)],true,[]⟩),
 (72,⟨true,h_4,[(0,2),(2,2),(4,1)],false,[]⟩),
 (77,⟨true,h_1,[(0,1),(1,1),(2,1)],false,[]⟩),
 (85,⟨false,[.int .u64],[],false,[]⟩),
 (93,⟨true,h_2,[(0,1),(1,1),(2,1)],false,[]⟩)]
theorem He:Afe Try.prog tys=true:=by kernel_rfl
theorem Js:Try.prog.follows .mixedOrders=true:=by kernel_rfl
abbrev Cj (C:Fns):Cfg:=⟨Vb tys,Jt C,Is C,3,4⟩
theorem mkF {f:FuncId} {fn:Func} {kd:Kind} {ps:List (Bool×List Sh)} {R:Type} {T:Hv ps→Tree R} {rvs:R→List RV×List RV} (C:Fns) (hc:Hp Try.prog C) (hf:Try.prog.funcs[f]? =some fn) (np:Nat) (hn:(fn.name== "runtime.NumGoroutine")=false:=by kernel_rfl) (hb:fn.body.isSome=true:=by kernel_rfl) (hl:A5 (fn.body.getD .skip)=[]:=by kernel_rfl)
  (he: ∀d,Et (Cj C) np (fun _ _=>.fail) fn kd (mkA ps d)=(T d).run fun r=>some (rvs r):=by intro d;kernel_rfl):Fn Try.prog f kd (Ax ps (fun d=>(T d).val) rvs):=
 Kj (Er Js He hc) hf hn hb (fun cx b hp hbb=>by rw[hl]at hbb;cases hbb) he
abbrev lpq (r:Nat) (K:Sk) (z:Nat) (X:List (Ex×Sk)) (B:K.den→Option (K.den⊕K5 X)):Eh:=fun i st=>cond (Nat.beq i r) (lam K z X B st) .fail
theorem C6 {f:FuncId} {fn:Func} {kd:Kind} {ps:List (Bool×List Sh)} {R:Type} {T:Hv ps→Tree R} {rvs:R→List RV×List RV} (C:Fns) (hc:Hp Try.prog C) (K:Sk) (z:Nat) (X:List (Ex×Sk)) (r:Nat) (B:K.den→Option (K.den⊕K5 X)) (hf:Try.prog.funcs[f]? =some fn) (np:Nat) (hn:(fn.name== "runtime.NumGoroutine")=false:=by kernel_rfl) (hb:fn.body.isSome=true:=by kernel_rfl) (h1:A5 (fn.body.getD .skip)=[Aq fn 0]:=by kernel_rfl) (h2:A5 (Aq fn 0)=[]:=by kernel_rfl)
  (hq:lpq r K z X B (F9 (Aq fn 0))=lam K z X B:=by kernel_rfl) (hl: ∀d,bod (Cj C) np fn.ntmps (lpq r K z X B) (Aq fn 0) K z X d=B d:=by intro d;kernel_rfl)
  (he: ∀d,Et (Cj C) np (lpq r K z X B) fn kd (mkA ps d)=(T d).run fun r=>some (rvs r):=by intro d;kernel_rfl):Fn Try.prog f kd (Ax ps (fun d=>(T d).val) rvs):=
 Kj (Er Js He hc) hf hn hb (fun cx b hp hbb=>B9 h1 ⟨C5 (Er Js He hc) hp (B9 h2 trivial) hq hl,trivial⟩ b hbb) he
def Aef:Az:=Ax [g_0] (fun d=>(Aeb d.1).val) fun r=>([rv g_1 r],[])
theorem Aii:Fn Try.prog 5 .plain Aef:=mkF [] trivial Try.func5 0
def Zl:Az:=Ax [g_0] (fun d=>(Qw d.1).val) fun r=>([rv g_2 r],[])
theorem Aff:Fn Try.prog 17 .ret Zl:=C6 [] trivial ⟨[(0,.v false [(.sl 5 [.int .u8],.ro)]),(3,.v false [(.int .i64,.nil)]),(4,.v false [(.int .i64,.nil)])],[],[]⟩ 4000000 [((.exit 0),⟨[(0,.v false [(.sl 5 [.int .u8],.ro)]),(3,.v false [(.int .i64,.nil)])],[],[]⟩)] 3 Jr Try.func17 0
def Pi:Az:=Ax [g_2] (fun d=>(Ok d.1).val) fun r=>([rv g_3 r.1],[rv g_2 r.2])
theorem Ta:Fn Try.prog 53 (.box [3] true) Pi:=mkF [] trivial Try.func53 1
def Dd:Az:=Ax [g_2,g_3] (fun d=>(Mr d.1 d.2.1).val) fun r=>([rv g_3 r.1],[rv g_2 r.2])
theorem Df:Fn Try.prog 45 (.box [3] true) Dd:=mkF [(53,(.box [3] true),Pi)] ⟨Ta,trivial⟩ Try.func45 1
def H6:Az:=Ax [g_2,g_4] (fun d=>(Qy d.1 d.2.1).val) fun r=>([rv g_3 r.1],[rv g_2 r.2])
theorem It:Fn Try.prog 19 (.box [3] true) H6:=mkF [(45,(.box [3] true),Dd)] ⟨Df,trivial⟩ Try.func19 1
def Fx:Az:=Ax [g_2,g_3] (fun d=>(Ms d.1 d.2.1).val) fun r=>([rv g_0 r.1],[rv g_2 r.2])
theorem Ga:Fn Try.prog 18 (.box [3] true) Fx:=C6 [(53,(.box [3] true),Pi)] ⟨Ta,trivial⟩ ⟨[(0,.box 0 0),(1,.v false [(.int .i64,.nil)]),(5,.v false [(.sl 5 [.int .u8],(.own 4000000))]),(6,.v false [(.int .i64,.nil)])],[(0,[(.sl 5 [.int .u8],(.pin 0)),(.int .i64,.nil),(.int .i64,.nil)])],[4000000]⟩ 4000000 [((.exit 0),⟨[(0,.box 0 0),(5,.v false [(.sl 5 [.int .u8],(.own 4000000))])],[(0,[(.sl 5 [.int .u8],(.pin 0)),(.int .i64,.nil),(.int .i64,.nil)])],[4000000]⟩)] 3 Fs Try.func18 1
def Q9:Az:=Ax [g_2] (fun d=>(Qz d.1).val) fun r=>([rv g_5 r.1],[rv g_2 r.2])
theorem Vc:Fn Try.prog 66 (.box [3] true) Q9:=mkF [(19,(.box [3] true),H6),(18,(.box [3] true),Fx),(45,(.box [3] true),Dd)] ⟨It,Ga,Df,trivial⟩ Try.func66 1
def Nb:Az:=Ax [g_3] (fun d=>(Mt d.1).val) fun r=>([rv g_3 r],[])
theorem Ra:Fn Try.prog 48 .plain Nb:=mkF [] trivial Try.func48 0
def Qn:Az:=Ax [g_2,g_3] (fun d=>(Ho d.1 d.2.1).val) fun r=>([rv g_6 r.1],[rv g_2 r.2])
def Ed:Fns:=[(45,(.box [3] true),Dd),(66,(.box [3] true),Q9),(48,.plain,Nb)]
theorem Hq:CfgOk Try.prog (Cj Ed):=Er Js He (show Hp Try.prog Ed from⟨Df,Vc,Ra,trivial⟩)
def K6:Sk:=⟨[(0,.box 0 0),(5,.v false [(.sl 42 h_3,(.own 14000000))]),(6,.v false [(.int .i64,.nil)])],[(0,[(.sl 5 [.int .u8],(.pin 0)),(.int .i64,.nil),(.int .i64,.nil)])],[14000000]⟩
def K7:List (Ex×Sk):=[((.exit 4),⟨[(0,.box 0 0),(5,.v false [(.sl 42 h_3,(.own 14000000))])],[(0,[(.sl 5 [.int .u8],(.pin 0)),(.int .i64,.nil),(.int .i64,.nil)])],[14000000]⟩)]
def Lx:Sk:=⟨[(0,.box 0 0),(5,.v false [(.sl 42 h_3,(.own 5000000))]),(6,.v false [(.int .i64,.nil)]),(7,.v false [(.int .i64,.nil)])],[(0,[(.sl 5 [.int .u8],(.pin 0)),(.int .i64,.nil),(.int .i64,.nil)])],[5000000]⟩
def Ly:List (Ex×Sk):=[((.exit 0),⟨[(0,.box 0 0),(5,.v false [(.sl 42 h_3,(.own 5000000))]),(6,.v false [(.int .i64,.nil)])],[(0,[(.sl 5 [.int .u8],(.pin 0)),(.int .i64,.nil),(.int .i64,.nil)])],[5000000]⟩)]
def Lz:Sk:=⟨[(0,.box 0 0),(5,.v false [(.sl 42 h_3,(.own 9000000))]),(6,.v false [(.int .i64,.nil)]),(7,.v false [(.int .i64,.nil)]),(8,.box 8 0),(9,.v false [(.int .i64,.nil)])],[(0,[(.sl 5 [.int .u8],(.pin 0)),(.int .i64,.nil),(.int .i64,.nil)]),(8,[(.int .i64,.nil),(.int .i64,.nil),(.int .i64,.nil),(.sl 5 [.int .u8],(.own 9000001))])],[9000000,9000001]⟩
def L0:List (Ex×Sk):=[((.exit 2),⟨[(0,.box 0 0),(5,.v false [(.sl 42 h_3,(.own 9000000))]),(6,.v false [(.int .i64,.nil)]),(7,.v false [(.int .i64,.nil)]),(8,.box 8 0)],[(0,[(.sl 5 [.int .u8],(.pin 0)),(.int .i64,.nil),(.int .i64,.nil)]),(8,[(.int .i64,.nil),(.int .i64,.nil),(.int .i64,.nil),(.sl 5 [.int .u8],(.own 9000001))])],[9000000,9000001]⟩)]
def Dn:Eh:=fun i st=>cond (Nat.beq i 8) (lam Lz 9000000 L0 Eg st) <| cond (Nat.beq i 4) (lam Lx 5000000 Ly F3 st) <| cond (Nat.beq i 13) (lam K6 14000000 K7 Fj st) <| .fail
theorem Uc (cx:Cx) (hp:cx.pin.length≤1):Ck Try.prog cx Try.f42.ntmps Dn (Aq Try.f42 1):=C5 Hq hp (B9 (by kernel_rfl:A5 (Aq Try.f42 1)=[]) trivial) (by kernel_rfl) (fun d=>(by kernel_rfl:bod (Cj Ed) 1 Try.f42.ntmps Dn (Aq Try.f42 1) Lz 9000000 L0 d=Eg d))
theorem Ud (cx:Cx) (hp:cx.pin.length≤1):Ck Try.prog cx Try.f42.ntmps Dn (Aq Try.f42 0):=C5 Hq hp (B9 (by kernel_rfl:A5 (Aq Try.f42 0)=[Aq Try.f42 1]) ⟨Uc cx hp,trivial⟩) (by kernel_rfl) (fun d=>(by kernel_rfl:bod (Cj Ed) 1 Try.f42.ntmps Dn (Aq Try.f42 0) Lx 5000000 Ly d=F3 d))
theorem S6 (cx:Cx) (hp:cx.pin.length≤1):Ck Try.prog cx Try.f42.ntmps Dn (Aq Try.f42 2):=C5 Hq hp (B9 (by kernel_rfl:A5 (Aq Try.f42 2)=[]) trivial) (by kernel_rfl) (fun d=>(by kernel_rfl:bod (Cj Ed) 1 Try.f42.ntmps Dn (Aq Try.f42 2) K6 14000000 K7 d=Fj d))
theorem Xj:Fn Try.prog 42 (.box [3] true) Qn:=Kj Hq Try.func42 (by kernel_rfl) (by kernel_rfl) (fun cx b hp hb=>B9 (by kernel_rfl:A5 (Try.f42.body.getD .skip)=[Aq Try.f42 0,Aq Try.f42 2]) ⟨Ud cx hp,S6 cx hp,trivial⟩ b hb) (fun d=>(by kernel_rfl:Et (Cj Ed) 1 Dn Try.f42 (.box [3] true) (mkA [g_2,g_3] d)=(Ho d.1 d.2.1).run fun r=>some ([rv g_6 r.1],[rv g_2 r.2])))
def Pj:Az:=Ax [g_2,g_3] (fun d=>(Ol d.1 d.2.1).val) fun r=>([rv g_1 r.1],[rv g_2 r.2])
theorem Tb:Fn Try.prog 43 (.box [3] true) Pj:=mkF [(45,(.box [3] true),Dd)] ⟨Df,trivial⟩ Try.func43 1
def Vd:Az:=Ax [g_2] (fun d=>(Om d.1).val) fun r=>([rv g_5 r.1],[rv g_2 r.2])
theorem Adh:Fn Try.prog 44 (.box [3] true) Vd:=mkF [(66,(.box [3] true),Q9),(45,(.box [3] true),Dd),(19,(.box [3] true),H6),(18,(.box [3] true),Fx)] ⟨Vc,Df,It,Ga,trivial⟩ Try.func44 1
def Fl:Az:=Ax [g_3,g_3,g_3] (fun d=>(T1 d.1 d.2.1 d.2.2.1).val) fun r=>([rv g_1 r],[])
theorem Fc:Fn Try.prog 59 .plain Fl:=mkF [] trivial Try.func59 0
def Aa5:Az:=Ax [g_3] (fun d=>(T2 d.1).val) fun r=>([rv g_7 r],[])
theorem Ag0:Fn Try.prog 67 .plain Aa5:=mkF [(59,.plain,Fl)] ⟨Fc,trivial⟩ Try.func67 0
def Ve:Az:=Ax [g_2] (fun d=>(Oo d.1).val) fun r=>([rv g_8 r.1],[rv g_2 r.2])
theorem Adi:Fn Try.prog 69 (.box [3] true) Ve:=mkF [(45,(.box [3] true),Dd),(18,(.box [3] true),Fx),(19,(.box [3] true),H6)] ⟨Df,Ga,It,trivial⟩ Try.func69 1
def Vf:Az:=Ax [g_3] (fun d=>(Ot d.1).val) fun r=>([rv g_1 r],[])
theorem Adj:Fn Try.prog 33 .plain Vf:=mkF [(59,.plain,Fl)] ⟨Fc,trivial⟩ Try.func33 0
def Vg:Az:=Ax [g_3,g_3] (fun d=>(Ov d.1 d.2.1).val) fun r=>([rv g_1 r],[])
theorem Adk:Fn Try.prog 34 .plain Vg:=mkF [] trivial Try.func34 0
def Tc:Az:=Ax [g_8] (fun d=>(Mu d.1).val) fun r=>([rv g_1 r],[])
theorem Aa6:Fn Try.prog 62 .plain Tc:=mkF [(33,.plain,Vf),(59,.plain,Fl),(34,.plain,Vg)] ⟨Adj,Fc,Adk,trivial⟩ Try.func62 0
def K8:Az:=Ax [g_0,g_3,g_3] (fun d=>(T3 d.1 d.2.1 d.2.2.1).val) fun r=>([rv g_0 r],[])
theorem L3:Fn Try.prog 60 .plain K8:=C6 [] trivial ⟨[(1,.v false [(.int .i64,.nil)]),(7,.v false [(.sl 5 [.int .u8],(.own 6000000))]),(8,.v false [(.int .i64,.nil)])],[],[6000000]⟩ 6000000 [((.exit 0),⟨[(7,.v false [(.sl 5 [.int .u8],(.own 6000000))])],[],[6000000]⟩)] 5 Ih Try.func60 0
def Rb:Az:=Ax [g_8] (fun d=>(Ks d.1).val) fun r=>([rv g_0 r],[])
theorem Aah:Fn Try.prog 79 .plain Rb:=C6 [(62,.plain,Tc),(60,.plain,K8)] ⟨Aa6,L3,trivial⟩ ⟨[(3,.v false [(.sl 5 [.int .u8],(.own 11000000))]),(4,.v false [(.int .i64,.nil)])],[],[11000000]⟩ 11000000 [((.exit 1),⟨[(3,.v false [(.sl 5 [.int .u8],(.own 11000000))])],[],[11000000]⟩)] 10 Di Try.func79 0
def Rc:Az:=Ax [g_7,g_7,g_8] (fun d=>(Ku d.1 d.2.1 d.2.2.1).val) fun r=>([rv g_9 r],[])
theorem Aai:Fn Try.prog 68 .plain Rc:=mkF [(79,.plain,Rb)] ⟨Aah,trivial⟩ Try.func68 0
def Td:Az:=Ax [g_2] (fun d=>(Mw d.1).val) fun r=>([rv g_9 r.1],[rv g_2 r.2])
theorem Aa7:Fn Try.prog 46 (.box [3] true) Td:=mkF [(43,(.box [3] true),Pj),(45,(.box [3] true),Dd),(67,.plain,Aa5),(19,(.box [3] true),H6),(18,(.box [3] true),Fx),(69,(.box [3] true),Ve),(68,.plain,Rc)] ⟨Tb,Df,Ag0,It,Ga,Adi,Aai,trivial⟩ Try.func46 1
def Rd:Az:=Ax [g_0] (fun d=>(Ii d.1).val) fun r=>([rv g_6 r.1,rv Xi r.2.1,rv Q8 r.2.2],[])
def Gb:Fns:=[(17,.ret,Zl),(19,(.box [3] true),H6),(42,(.box [3] true),Qn),(43,(.box [3] true),Pj),(44,(.box [3] true),Vd),(45,(.box [3] true),Dd),(46,(.box [3] true),Td),(18,(.box [3] true),Fx)]
theorem K9:CfgOk Try.prog (Cj Gb):=Er Js He (show Hp Try.prog Gb from⟨Aff,It,Xj,Tb,Adh,Df,Aa7,Ga,trivial⟩)
def L4:Sk:=⟨[(5,.box 12 0),(6,.v false [(.sl 42 h_3,(.own 13000000))]),(7,.v false [(.sl 72 h_4,(.own 13000001))]),(9,.v false [(.sl 22 [.sl 5 [.int .u8]],(.own 13000002))]),(10,.v false [(.int .i64,.nil)])],[(12,[(.sl 5 [.int .u8],.rd),(.int .i64,.nil),(.int .i64,.nil)])],[13000000,13000001,13000002]⟩
def L5:List (Ex×Sk):=[((.exit 2),⟨[(6,.v false [(.sl 42 h_3,(.own 13000000))]),(7,.v false [(.sl 72 h_4,(.own 13000001))]),(9,.v false [(.sl 22 [.sl 5 [.int .u8]],(.own 13000002))])],[],[13000000,13000001,13000002]⟩)]
def Nq:Sk:=⟨[(5,.box 12 0),(6,.v false [(.sl 42 h_3,(.own 8000000))]),(7,.v false [(.sl 72 h_4,(.own 8000001))]),(8,.v false [(.int .i64,.nil)])],[(12,[(.sl 5 [.int .u8],.rd),(.int .i64,.nil),(.int .i64,.nil)])],[8000000,8000001]⟩
def Nr:List (Ex×Sk):=[((.exit 0),⟨[(5,.box 12 0),(6,.v false [(.sl 42 h_3,(.own 8000000))]),(7,.v false [(.sl 72 h_4,(.own 8000001))])],[(12,[(.sl 5 [.int .u8],.rd),(.int .i64,.nil),(.int .i64,.nil)])],[8000000,8000001]⟩)]
def Gc:Eh:=fun i st=>cond (Nat.beq i 7) (lam Nq 8000000 Nr Dz st) <| cond (Nat.beq i 12) (lam L4 13000000 L5 Dj st) <| .fail
theorem Vh (cx:Cx) (hp:cx.pin.length≤0):Ck Try.prog cx Try.f14.ntmps Gc (Aq Try.f14 0):=C5 K9 hp (B9 (by kernel_rfl:A5 (Aq Try.f14 0)=[]) trivial) (by kernel_rfl) (fun d=>(by kernel_rfl:bod (Cj Gb) 0 Try.f14.ntmps Gc (Aq Try.f14 0) Nq 8000000 Nr d=Dz d))
theorem Ue (cx:Cx) (hp:cx.pin.length≤0):Ck Try.prog cx Try.f14.ntmps Gc (Aq Try.f14 1):=C5 K9 hp (B9 (by kernel_rfl:A5 (Aq Try.f14 1)=[]) trivial) (by kernel_rfl) (fun d=>(by kernel_rfl:bod (Cj Gb) 0 Try.f14.ntmps Gc (Aq Try.f14 1) L4 13000000 L5 d=Dj d))
theorem Aaj:Fn Try.prog 14 .view Rd:=Kj K9 Try.func14 (by kernel_rfl) (by kernel_rfl) (fun cx b hp hb=>B9 (by kernel_rfl:A5 (Try.f14.body.getD .skip)=[Aq Try.f14 0,Aq Try.f14 1]) ⟨Vh cx hp,Ue cx hp,trivial⟩ b hb) (fun d=>(by kernel_rfl:Et (Cj Gb) 0 Gc Try.f14 .view (mkA [g_0] d)=(Ii d.1).run fun r=>some ([rv g_6 r.1,rv Xi r.2.1,rv Q8 r.2.2],[])))
def Re:Az:=Ax [g_3] (fun d=>(Kw d.1).val) fun r=>([rv g_3 r],[])
theorem Aak:Fn Try.prog 38 .plain Re:=mkF [] trivial Try.func38 0
def Ei:Az:=Ax [g_3,g_3,g_3] (fun d=>(Ox d.1 d.2.1 d.2.2.1).val) fun r=>([rv g_1 r],[])
theorem Es:Fn Try.prog 21 .plain Ei:=mkF [] trivial Try.func21 0
def Vi:Az:=Ax [g_5] (fun d=>(Oy d.1).val) fun r=>([rv g_1 r],[])
theorem Adl:Fn Try.prog 39 .plain Vi:=mkF [(21,.plain,Ei)] ⟨Es,trivial⟩ Try.func39 0
def Xk:Az:=Ax [g_0,g_3,g_3] (fun d=>(Wz d.1 d.2.1 d.2.2.1).val) fun r=>([rv g_0 r.1,rv g_1 r.2],[])
theorem Aa8:Fn Try.prog 63 .plain Xk:=mkF [] trivial Try.func63 0
def Fm:Az:=Ax [Q8] (fun d=>(O0 d.1).val) fun r=>([rv g_0 r],[])
theorem Fy:Fn Try.prog 22 .plain Fm:=C6 [] trivial ⟨[(3,.v false [(.sl 5 [.int .u8],(.own 4000000))]),(7,.v false [(.sl 22 [.sl 5 [.int .u8]],.ro)]),(8,.v false [(.int .i64,.nil)]),(9,.v false [(.int .i64,.nil)])],[],[4000000]⟩ 4000000 [((.exit 0),⟨[(3,.v false [(.sl 5 [.int .u8],(.own 4000000))])],[],[4000000]⟩)] 3 Eu Try.func22 0
def Zm:Az:=Ax [g_0,g_0] (fun d=>(Q1 d.1 d.2.1).val) fun r=>([rv g_0 r],[])
theorem Afg:Fn Try.prog 64 .plain Zm:=C6 [] trivial ⟨[(1,.v false [(.sl 5 [.int .u8],.ro)]),(5,.v false [(.sl 5 [.int .u8],(.own 4000000))]),(9,.v false [(.sl 5 [.int .u8],.ro)]),(10,.v false [(.int .i64,.nil)]),(11,.v false [(.int .i64,.nil)])],[],[4000000]⟩ 4000000 [((.exit 0),⟨[(5,.v false [(.sl 5 [.int .u8],(.own 4000000))])],[],[4000000]⟩)] 3 Fv Try.func64 0
def Gd:Az:=Ax [g_0] (fun d=>(Q3 d.1).val) fun r=>([rv g_0 r],[])
theorem G3:Fn Try.prog 25 .plain Gd:=mkF [] trivial Try.func25 0
def Zn:Az:=Ax [] (fun d=>(Zh).val) fun r=>([rv g_4 r],[])
theorem Afh:Fn Try.prog 95 .plain Zn:=mkF [] trivial Try.func95 0
def Te:Az:=Ax [] (fun d=>(S7).val) fun r=>([rv Aa4 r],[])
theorem Aa9:Fn Try.prog 86 .plain Te:=mkF [(95,.plain,Zn)] ⟨Afh,trivial⟩ Try.func86 0
def La:Az:=Ax [g_4,g_3] (fun d=>(Kx d.1 d.2.1).val) fun r=>([rv g_1 r],[])
theorem Qo:Fn Try.prog 97 .plain La:=C6 [(21,.plain,Ei)] ⟨Es,trivial⟩ ⟨[(0,.v false [(.sl 3 [.int .i64],.ro)]),(1,.v false [(.int .i64,.nil)]),(7,.v false [(.sl 3 [.int .i64],.ro)]),(8,.v false [(.int .i64,.nil)]),(9,.v false [(.int .i64,.nil)])],[],[]⟩ 3000000 [(.ret,⟨[(4,.v false [(.bool,.nil)])],[],[]⟩),((.exit 0),⟨[(0,.v false [(.sl 3 [.int .i64],.ro)]),(1,.v false [(.int .i64,.nil)])],[],[]⟩)] 2 Ev Try.func97 0
def Pk:Az:=Ax [Aa4] (fun d=>(O3 d.1).val) fun r=>([rv g_1 r],[])
theorem Tf:Fn Try.prog 91 .plain Pk:=mkF [(97,.plain,La),(21,.plain,Ei)] ⟨Qo,Es,trivial⟩ Try.func91 0
def Aba:Az:=Ax [g_0,g_3,g_3] (fun d=>(T4 d.1 d.2.1 d.2.2.1).val) fun r=>([rv g_3 r.1,rv g_3 r.2.1,rv g_1 r.2.2],[])
theorem Ag1:Fn Try.prog 103 .plain Aba:=C6 [(63,.plain,Xk)] ⟨Aa8,trivial⟩ ⟨[(1,.v false [(.int .i64,.nil)]),(2,.v false [(.int .i64,.nil)]),(11,.v false [(.int .i64,.nil)]),(29,.v false [(.sl 5 [.int .u8],(.own 9000000))]),(30,.v false [(.int .i64,.nil)]),(31,.v false [(.int .i64,.nil)])],[],[9000000]⟩ 9000000 [((.exit 0),⟨[(1,.v false [(.int .i64,.nil)]),(2,.v false [(.int .i64,.nil)]),(11,.v false [(.int .i64,.nil)])],[],[]⟩)] 8 Gx Try.func103 0
def Xl:Az:=Ax [g_3,g_3] (fun d=>(W0 d.1 d.2.1).val) fun r=>([rv g_3 r],[])
theorem Abb:Fn Try.prog 100 .plain Xl:=mkF [] trivial Try.func100 0
def Rf:Az:=Ax [g_0] (fun d=>(Ik d.1).val) fun r=>([rv g_4 r],[])
def Ge:Fns:=[(103,.plain,Aba),(100,.plain,Xl)]
theorem Lb:CfgOk Try.prog (Cj Ge):=Er Js He (show Hp Try.prog Ge from⟨Ag1,Abb,trivial⟩)
def Ns:Sk:=⟨[(3,.v false [(.sl 3 [.int .i64],(.own 10000000))]),(5,.v false [(.int .i64,.nil)])],[],[10000000]⟩
def Nt:List (Ex×Sk):=[((.exit 2),⟨[(3,.v false [(.sl 3 [.int .i64],(.own 10000000))])],[],[10000000]⟩)]
def Nu:Sk:=⟨[(0,.v false [(.sl 5 [.int .u8],.ro)]),(3,.v false [(.sl 3 [.int .i64],(.own 6000000))]),(4,.v false [(.int .i64,.nil)])],[],[6000000]⟩
def Nv:List (Ex×Sk):=[((.exit 0),⟨[(3,.v false [(.sl 3 [.int .i64],(.own 6000000))])],[],[6000000]⟩)]
def Gf:Eh:=fun i st=>cond (Nat.beq i 5) (lam Nu 6000000 Nv D0 st) <| cond (Nat.beq i 9) (lam Ns 10000000 Nt D3 st) <| .fail
theorem Vj (cx:Cx) (hp:cx.pin.length≤0):Ck Try.prog cx Try.f99.ntmps Gf (Aq Try.f99 0):=C5 Lb hp (B9 (by kernel_rfl:A5 (Aq Try.f99 0)=[]) trivial) (by kernel_rfl) (fun d=>(by kernel_rfl:bod (Cj Ge) 0 Try.f99.ntmps Gf (Aq Try.f99 0) Nu 6000000 Nv d=D0 d))
theorem Vk (cx:Cx) (hp:cx.pin.length≤0):Ck Try.prog cx Try.f99.ntmps Gf (Aq Try.f99 1):=C5 Lb hp (B9 (by kernel_rfl:A5 (Aq Try.f99 1)=[]) trivial) (by kernel_rfl) (fun d=>(by kernel_rfl:bod (Cj Ge) 0 Try.f99.ntmps Gf (Aq Try.f99 1) Ns 10000000 Nt d=D3 d))
theorem Aal:Fn Try.prog 99 .plain Rf:=Kj Lb Try.func99 (by kernel_rfl) (by kernel_rfl) (fun cx b hp hb=>B9 (by kernel_rfl:A5 (Try.f99.body.getD .skip)=[Aq Try.f99 0,Aq Try.f99 1]) ⟨Vj cx hp,Vk cx hp,trivial⟩ b hb) (fun d=>(by kernel_rfl:Et (Cj Ge) 0 Gf Try.f99 .plain (mkA [g_0] d)=(Ik d.1).run fun r=>some ([rv g_4 r],[])))
theorem Ag2 (n:Int) (w:World) (h0:0≤n) (h1:n≤63):
  Calls Try.prog 101 #[.int .i64 n] w (Ret w (.int .i64 (Hf[n.toNat]?.getD 0))):=by
 have hx: ∃x,Hf[n.toNat]? =some x:=⟨_,List.getElem?_eq_getElem (by simp[Hf];omega)⟩
 obtain⟨x,hx⟩:=hx
 have hcell:(Rg 105 w Vl).cell? ⟨w.heap.size,n.toNat,none⟩=some (.int .i64 x):=by
  rw[Adm];unfold Vl;rw[List.getElem?_toArray,List.getElem?_map,hx];rfl
 rw[hx]
 go_enter Try.func101,Try.ntmps101
 go_wp2_with (first|(refine Aam rfl 105 _ rfl Vl (by kernel_rfl) ?_)|(refine Aan rfl 105 rfl _ _ Vm (by kernel_rfl) (by kernel_rfl) (by kernel_rfl) ?_)|(refine Aao rfl 105 _ _ rfl Vl rfl rfl (by kernel_rfl) (by kernel_rfl) (by kernel_rfl) ?_))
 go_ret
 refine Ret.mk rfl ?_
 rw[Ag3]
 exact(Bi.refl _).alloc _
theorem Ag4 (n:Int) (w:World) (h0: ¬(0≤n∧n≤63)):
  Calls Try.prog 101 #[.int .i64 n] w (Ret w (.int .i64 0)):=by
 by_cases h:n<0
 ·go_enter Try.func101,Try.ntmps101
  go_wp2_with fail
  go_ret
  exact Ret.mk rfl (Bi.refl _)
 ·have h2:63<n:=by omega
  go_enter Try.func101,Try.ntmps101
  go_wp2_with fail
  go_ret
  exact Ret.mk rfl (Bi.refl _)
def Aap:List (Bool×List Sh):=[(false,[.int .i64])]
def Aaq (r:YI):List RV×List RV:=([rv (false,[.int .i64]) r],[])
def Qp:Az:=Ax Aap (fun d=>(Ql d.1).val) Aaq
theorem Xm:Fn Try.prog 101 .plain Qp:=by
 refine⟨?_,Try.f101,Try.func101,by kernel_rfl,by kernel_rfl⟩
 intro rs res vals w G hv hG hr
 obtain⟨d,x,rfl,h1,h2⟩:=Abc hv
 obtain⟨⟨n,_⟩,_⟩:=d
 cases h1
 subst h2
 match vals,hr with
 |[v],hr=>
  have e:v= .int .i64 n:=hr.1.1.1
  subst e
  refine(?_:Calls Try.prog 101 #[.int .i64 n] w (Ret w (.int .i64 (Jz n)))).mono fun e w' h=>Ag5 (Ag6 n) h
  unfold Jz
  by_cases h:0≤n∧n≤63
  ·rw[if_pos h];exact Ag2 n w h.1 h.2
  ·rw[if_neg h];exact Ag4 n w h

def Zo:Az:=Ax [g_3,g_3] (fun d=>(Zi d.1 d.2.1).val) fun r=>([rv g_3 r],[])
theorem Afi:Fn Try.prog 102 .plain Zo:=mkF [] trivial Try.func102 0
def Rh:Az:=Ax [g_4,g_0] (fun d=>(Il d.1 d.2.1).val) fun r=>([rv g_4 r],[])
def Gg:Fns:=[(97,.plain,La),(99,.plain,Rf),(100,.plain,Xl),(101,.plain,Qp),(102,.plain,Zo)]
theorem Lc:CfgOk Try.prog (Cj Gg):=Er Js He (show Hp Try.prog Gg from⟨Qo,Aal,Abb,Xm,Afi,trivial⟩)
def L6:Sk:=⟨[(0,.v false [(.sl 3 [.int .i64],.ro)]),(5,.v false [(.sl 3 [.int .i64],(.own 17000000))]),(133,.v false [(.sl 3 [.int .i64],(.own 17000001))]),(134,.v false [(.int .i64,.nil)]),(135,.v false [(.int .i64,.nil)])],[],[17000000,17000001]⟩
def L7:List (Ex×Sk):=[((.exit 2),⟨[(5,.v false [(.sl 3 [.int .i64],(.own 17000000))])],[],[17000000]⟩)]
def Nw:Sk:=⟨[(0,.v false [(.sl 3 [.int .i64],.ro)]),(5,.v false [(.sl 3 [.int .i64],(.own 8000000))]),(6,.v false [(.sl 3 [.int .i64],(.own 8000001))]),(7,.v false [(.int .i64,.nil)]),(8,.v false [(.int .i64,.nil)]),(9,.v false [(.int .i64,.nil)]),(10,.v false [(.int .i64,.nil)]),(11,.v false [(.int .i64,.nil)]),(12,.v false [(.int .i64,.nil)]),(13,.v false [(.int .i64,.nil)]),(14,.v false [(.int .i64,.nil)]),(15,.v false [(.int .i64,.nil)])],[],[8000000,8000001]⟩
def Nx:List (Ex×Sk):=[((.exit 0),⟨[(0,.v false [(.sl 3 [.int .i64],.ro)]),(5,.v false [(.sl 3 [.int .i64],(.own 8000000))]),(7,.v false [(.int .i64,.nil)]),(8,.v false [(.int .i64,.nil)]),(9,.v false [(.int .i64,.nil)]),(10,.v false [(.int .i64,.nil)]),(11,.v false [(.int .i64,.nil)]),(12,.v false [(.int .i64,.nil)]),(13,.v false [(.int .i64,.nil)]),(14,.v false [(.int .i64,.nil)])],[],[8000000]⟩)]
def Gi:Eh:=fun i st=>cond (Nat.beq i 7) (lam Nw 8000000 Nx Db st) <| cond (Nat.beq i 16) (lam L6 17000000 L7 Cu st) <| .fail
theorem Vn (cx:Cx) (hp:cx.pin.length≤0):Ck Try.prog cx Try.f98.ntmps Gi (Aq Try.f98 0):=C5 Lc hp (B9 (by kernel_rfl:A5 (Aq Try.f98 0)=[]) trivial) (by kernel_rfl) (fun d=>(by kernel_rfl:bod (Cj Gg) 0 Try.f98.ntmps Gi (Aq Try.f98 0) Nw 8000000 Nx d=Db d))
theorem Uf (cx:Cx) (hp:cx.pin.length≤0):Ck Try.prog cx Try.f98.ntmps Gi (Aq Try.f98 1):=C5 Lc hp (B9 (by kernel_rfl:A5 (Aq Try.f98 1)=[]) trivial) (by kernel_rfl) (fun d=>(by kernel_rfl:bod (Cj Gg) 0 Try.f98.ntmps Gi (Aq Try.f98 1) L6 17000000 L7 d=Cu d))
theorem Aar:Fn Try.prog 98 .plain Rh:=Kj Lc Try.func98 (by kernel_rfl) (by kernel_rfl) (fun cx b hp hb=>B9 (by kernel_rfl:A5 (Try.f98.body.getD .skip)=[Aq Try.f98 0,Aq Try.f98 1]) ⟨Vn cx hp,Uf cx hp,trivial⟩ b hb) (fun d=>(by kernel_rfl:Et (Cj Gg) 0 Gi Try.f98 .plain (mkA [g_4,g_0] d)=(Il d.1 d.2.1).run fun r=>some ([rv g_4 r],[])))
def Iu:Az:=Ax [g_4,g_0] (fun d=>(Im d.1 d.2.1).val) fun r=>([rv g_4 r.1,rv g_0 r.2],[])
theorem Ld:Fn Try.prog 92 .view Iu:=C6 [(98,.plain,Rh)] ⟨Aar,trivial⟩ ⟨[(0,.v false [(.sl 3 [.int .i64],.rd)]),(1,.v false [(.sl 5 [.int .u8],.ro)])],[],[]⟩ 2000000 [((.exit 0),⟨[(0,.v false [(.sl 3 [.int .i64],.rd)]),(1,.v false [(.sl 5 [.int .u8],.ro)])],[],[]⟩)] 1 Cg Try.func92 0
def Tg:Az:=Ax [Aa4,g_0] (fun d=>(My d.1 d.2.1).val) fun r=>([rv Aa4 r],[])
theorem Abd:Fn Try.prog 85 .plain Tg:=mkF [(91,.plain,Pk),(25,.plain,Gd),(22,.plain,Fm),(92,.view,Iu)] ⟨Tf,G3,Fy,Ld,trivial⟩ Try.func85 0
def Pm:Az:=Ax [g_0,g_3,g_3] (fun d=>(Aa3 d.1 d.2.1 d.2.2.1).val) fun r=>([rv g_0 r],[])
theorem Ri:Fn Try.prog 23 .plain Pm:=C6 [] trivial ⟨[(1,.v false [(.int .i64,.nil)]),(7,.v false [(.sl 5 [.int .u8],(.own 6000000))]),(8,.v false [(.int .i64,.nil)])],[],[6000000]⟩ 6000000 [((.exit 0),⟨[(7,.v false [(.sl 5 [.int .u8],(.own 6000000))])],[],[6000000]⟩)] 5 Va Try.func23 0
def Aeg:Az:=Ax [g_3] (fun d=>(W1 d.1).val) fun r=>([rv g_0 r],[])
theorem Aij:Fn Try.prog 93 .plain Aeg:=C6 [(21,.plain,Ei),(23,.plain,Pm)] ⟨Es,Ri,trivial⟩ ⟨[(0,.v false [(.int .i64,.nil)]),(3,.v false [(.sl 5 [.int .u8],(.own 5000000))])],[],[5000000]⟩ 5000000 [((.exit 0),⟨[(0,.v false [(.int .i64,.nil)]),(3,.v false [(.sl 5 [.int .u8],(.own 5000000))])],[],[5000000]⟩)] 4 F7 Try.func93 0
def Qq:Az:=Ax [g_4] (fun d=>(J9 d.1).val) fun r=>([rv g_0 r],[])
theorem Xn:Fn Try.prog 94 .plain Qq:=C6 [(23,.plain,Pm)] ⟨Ri,trivial⟩ ⟨[(3,.v false [(.sl 5 [.int .u8],(.own 4000000))]),(7,.v false [(.sl 3 [.int .i64],.ro)]),(8,.v false [(.int .i64,.nil)]),(9,.v false [(.int .i64,.nil)])],[],[4000000]⟩ 4000000 [((.exit 0),⟨[(3,.v false [(.sl 5 [.int .u8],(.own 4000000))])],[],[4000000]⟩)] 3 Dk Try.func94 0
def Th:Az:=Ax [Aa4] (fun d=>(M0 d.1).val) fun r=>([rv g_0 r],[])
theorem Abe:Fn Try.prog 84 .plain Th:=mkF [(91,.plain,Pk),(93,.plain,Aeg),(22,.plain,Fm),(92,.view,Iu),(94,.plain,Qq)] ⟨Tf,Aij,Fy,Ld,Xn,trivial⟩ Try.func84 0
def Xo:Az:=Ax [g_0] (fun d=>(W3 d.1).val) fun r=>([rv g_0 r],[])
theorem Abf:Fn Try.prog 76 .plain Xo:=mkF [(86,.plain,Te),(85,.plain,Tg),(84,.plain,Th)] ⟨Aa9,Abd,Abe,trivial⟩ Try.func76 0
def Rj:Az:=Ax [g_0] (fun d=>(Kz d.1).val) fun r=>([rv g_0 r],[])
theorem Aas:Fn Try.prog 75 .plain Rj:=C6 [(25,.plain,Gd),(76,.plain,Xo)] ⟨G3,Abf,trivial⟩ ⟨[(3,.v false [(.sl 5 [.int .u8],(.own 7000000))])],[],[7000000]⟩ 7000000 [((.exit 0),⟨[(3,.v false [(.sl 5 [.int .u8],(.own 7000000))])],[],[7000000]⟩)] 6 Cp Try.func75 0
def Vo:Az:=Ax [g_0,Ama] (fun d=>(O4 d.1 d.2.1).val) fun r=>([rv g_0 r],[])
theorem Adn:Fn Try.prog 77 .plain Vo:=C6 [] trivial ⟨[(1,.v false [(.int .u8,.nil)]),(5,.v false [(.sl 5 [.int .u8],(.own 4000000))]),(9,.v false [(.sl 5 [.int .u8],.ro)]),(10,.v false [(.int .i64,.nil)]),(11,.v false [(.int .i64,.nil)])],[],[4000000]⟩ 4000000 [((.exit 0),⟨[(5,.v false [(.sl 5 [.int .u8],(.own 4000000))])],[],[4000000]⟩)] 3 Ew Try.func77 0
def Le:Az:=Ax [g_0,g_0] (fun d=>(T6 d.1 d.2.1).val) fun r=>([rv g_0 r],[])
theorem L8:Fn Try.prog 58 .plain Le:=mkF [(75,.plain,Rj),(77,.plain,Vo),(22,.plain,Fm),(76,.plain,Xo)] ⟨Aas,Adn,Fy,Abf,trivial⟩ Try.func58 0
def Aeh:Az:=Ax [g_0,g_0] (fun d=>(W4 d.1 d.2.1).val) fun r=>([rv g_0 r],[])
theorem Aik:Fn Try.prog 31 .plain Aeh:=mkF [(58,.plain,Le),(25,.plain,Gd)] ⟨L8,G3,trivial⟩ Try.func31 0
def Vp:Az:=Ax [g_0,g_0,g_3] (fun d=>(O5 d.1 d.2.1 d.2.2.1).val) fun r=>([rv g_0 r.1,rv g_1 r.2],[])
theorem Ado:Fn Try.prog 52 .plain Vp:=C6 [(21,.plain,Ei),(22,.plain,Fm),(58,.plain,Le),(25,.plain,Gd)] ⟨Es,Fy,L8,G3,trivial⟩ ⟨[(0,.v false [(.sl 5 [.int .u8],.ro)]),(1,.v false [(.sl 5 [.int .u8],.ro)]),(2,.v false [(.int .i64,.nil)]),(8,.v false [(.sl 5 [.int .u8],(.own 7000000))]),(9,.v false [(.sl 5 [.int .u8],(.own 7000001))]),(10,.v false [(.int .i64,.nil)])],[],[7000000,7000001]⟩ 7000000 [((.exit 0),⟨[(2,.v false [(.int .i64,.nil)]),(8,.v false [(.sl 5 [.int .u8],(.own 7000000))])],[],[7000000]⟩)] 6 Ey Try.func52 0
def Pn:Az:=Ax [g_0,Ak3] (fun d=>(O7 d.1 d.2.1).val) fun r=>([rv g_0 r],[])
theorem Ti:Fn Try.prog 16 .plain Pn:=mkF [(52,.plain,Vp)] ⟨Ado,trivial⟩ Try.func16 0
def Tj:Az:=Ax [g_0,g_0,g_3] (fun d=>(M5 d.1 d.2.1 d.2.2.1).val) fun r=>([rv g_0 r],[])
theorem Abg:Fn Try.prog 74 .plain Tj:=mkF [(21,.plain,Ei),(22,.plain,Fm),(23,.plain,Pm),(58,.plain,Le)] ⟨Es,Fy,Ri,L8,trivial⟩ Try.func74 0
def Vq:Az:=Ax [g_0,g_0,g_3] (fun d=>(O8 d.1 d.2.1 d.2.2.1).val) fun r=>([rv g_0 r],[])
theorem Adp:Fn Try.prog 57 .plain Vq:=C6 [(21,.plain,Ei),(74,.plain,Tj),(25,.plain,Gd)] ⟨Es,Abg,G3,trivial⟩ ⟨[(0,.v false [(.sl 5 [.int .u8],.ro)]),(1,.v false [(.sl 5 [.int .u8],.ro)]),(2,.v false [(.int .i64,.nil)]),(7,.v false [(.sl 5 [.int .u8],(.own 6000000))]),(8,.v false [(.int .i64,.nil)])],[],[6000000]⟩ 6000000 [((.exit 0),⟨[(2,.v false [(.int .i64,.nil)]),(7,.v false [(.sl 5 [.int .u8],(.own 6000000))])],[],[6000000]⟩)] 5 Ez Try.func57 0
def Aei:Az:=Ax [g_0,g_0,g_0] (fun d=>(W6 d.1 d.2.1 d.2.2.1).val) fun r=>([rv g_0 r],[])
theorem Ail:Fn Try.prog 29 .plain Aei:=C6 [(57,.plain,Vq)] ⟨Adp,trivial⟩ ⟨[(2,.v false [(.sl 5 [.int .u8],.ro)]),(7,.v false [(.sl 5 [.int .u8],(.own 6000000))]),(28,.v false [(.sl 5 [.int .u8],(.own 6000001))]),(29,.v false [(.int .i64,.nil)]),(30,.v false [(.int .i64,.nil)])],[],[6000000,6000001]⟩ 6000000 [((.exit 0),⟨[(7,.v false [(.sl 5 [.int .u8],(.own 6000000))])],[],[6000000]⟩)] 5 H3 Try.func29 0
def Vr:Az:=Ax [g_5,Q8,Xi,Q8] (fun d=>(Bq d.1 d.2.1 d.2.2.1 d.2.2.2.1).val) fun r=>([rv g_0 r.1,rv g_1 r.2],[])
theorem Adq:Fn Try.prog 40 .view Vr:=mkF [(63,.plain,Xk),(22,.plain,Fm),(64,.plain,Zm),(58,.plain,Le),(31,.plain,Aeh),(16,.plain,Pn),(29,.plain,Aei)] ⟨Aa8,Fy,Afg,L8,Aik,Ti,Ail,trivial⟩ Try.func40 0
def Abh:Az:=Ax [g_6,Xi,Q8] (fun d=>(Je d.1 d.2.1 d.2.2.1).val) fun r=>([rv g_0 r.1,rv g_1 r.2],[])
theorem Ag7:Fn Try.prog 10 .plain Abh:=C6 [(38,.plain,Re),(39,.plain,Vi),(40,.view,Vr),(25,.plain,Gd)] ⟨Aak,Adl,Adq,G3,trivial⟩ ⟨[(1,.v false [(.sl 72 h_4,.ro)]),(2,.v false [(.sl 22 [.sl 5 [.int .u8]],.ro)]),(8,.v false [(.sl 22 [.sl 5 [.int .u8]],(.row 6000000))]),(18,.v false [(.sl 42 h_3,.ro)]),(19,.v false [(.int .i64,.nil)]),(20,.v false [(.int .i64,.nil)])],[],[6000000]⟩ 6000000 [(.ret,⟨[(6,.v false [(.sl 5 [.int .u8],(.own 6000000))]),(7,.v false [(.bool,.nil)])],[],[6000000]⟩),((.exit 0),⟨[(8,.v false [(.sl 22 [.sl 5 [.int .u8]],(.row 6000000))])],[],[6000000]⟩)] 5 A9 Try.func10 0
def Vs:Az:=Ax [g_5] (fun d=>(Pa d.1).val) fun r=>([rv g_1 r],[])
theorem Adr:Fn Try.prog 47 .plain Vs:=mkF [(59,.plain,Fl)] ⟨Fc,trivial⟩ Try.func47 0
def Aej:Az:=Ax [g_0,g_3,g_3] (fun d=>(W8 d.1 d.2.1 d.2.2.1).val) fun r=>([rv g_0 r.1,rv g_1 r.2],[])
theorem Aim:Fn Try.prog 49 .plain Aej:=mkF [] trivial Try.func49 0
def Aek:Az:=Ax [g_3] (fun d=>(Xa d.1).val) fun r=>([rv g_0 r],[])
theorem Ain:Fn Try.prog 80 .plain Aek:=C6 [(60,.plain,K8)] ⟨L3,trivial⟩ ⟨[(0,.v false [(.int .i64,.nil)]),(3,.v false [(.sl 5 [.int .u8],(.own 5000000))])],[],[5000000]⟩ 5000000 [((.exit 0),⟨[(0,.v false [(.int .i64,.nil)]),(3,.v false [(.sl 5 [.int .u8],(.own 5000000))])],[],[5000000]⟩)] 4 Q4 Try.func80 0
def Zp:Az:=Ax [] (fun d=>(Zj).val) fun r=>([rv g_4 r],[])
theorem Afj:Fn Try.prog 81 .plain Zp:=mkF [] trivial Try.func81 0
def Tk:Az:=Ax [g_4] (fun d=>(M7 d.1).val) fun r=>([rv g_1 r],[])
theorem Abi:Fn Try.prog 87 .plain Tk:=C6 [(59,.plain,Fl)] ⟨Fc,trivial⟩ ⟨[(0,.v false [(.sl 3 [.int .i64],.ro)]),(3,.v false [(.int .i64,.nil)])],[],[]⟩ 3000000 [(.ret,⟨[(2,.v false [(.bool,.nil)])],[],[]⟩),((.exit 0),⟨[(0,.v false [(.sl 3 [.int .i64],.ro)])],[],[]⟩)] 2 Ft Try.func87 0
def Ael:Az:=Ax [] (fun d=>(Aed).val) fun r=>([rv g_4 r],[])
theorem Aio:Fn Try.prog 88 .plain Ael:=mkF [] trivial Try.func88 0
def Abj:Az:=Ax [g_0,g_3,g_3] (fun d=>(T7 d.1 d.2.1 d.2.2.1).val) fun r=>([rv g_3 r.1,rv g_3 r.2.1,rv g_1 r.2.2],[])
theorem Ag8:Fn Try.prog 96 .plain Abj:=C6 [] trivial ⟨[(0,.v false [(.sl 5 [.int .u8],.ro)]),(1,.v false [(.int .i64,.nil)]),(2,.v false [(.int .i64,.nil)]),(9,.v false [(.int .i64,.nil)]),(10,.v false [(.int .i64,.nil)])],[],[]⟩ 6000000 [((.exit 0),⟨[(1,.v false [(.int .i64,.nil)]),(2,.v false [(.int .i64,.nil)]),(9,.v false [(.int .i64,.nil)])],[],[]⟩)] 5 Gy Try.func96 0
def Xp:Az:=Ax [g_3,g_3] (fun d=>(Xc d.1 d.2.1).val) fun r=>([rv g_3 r],[])
theorem Abk:Fn Try.prog 90 .plain Xp:=mkF [] trivial Try.func90 0
def Rk:Az:=Ax [g_0] (fun d=>(Ip d.1).val) fun r=>([rv g_4 r],[])
def Gj:Fns:=[(96,.plain,Abj),(90,.plain,Xp)]
theorem Lf:CfgOk Try.prog (Cj Gj):=Er Js He (show Hp Try.prog Gj from⟨Ag8,Abk,trivial⟩)
def L9:Sk:=⟨[(3,.v false [(.sl 3 [.int .i64],(.own 11000000))]),(8,.v false [(.int .i64,.nil)])],[],[11000000]⟩
def Ma:List (Ex×Sk):=[((.exit 2),⟨[(3,.v false [(.sl 3 [.int .i64],(.own 11000000))])],[],[11000000]⟩)]
def Ny:Sk:=⟨[(0,.v false [(.sl 5 [.int .u8],.ro)]),(3,.v false [(.sl 3 [.int .i64],(.own 6000000))]),(4,.v false [(.int .i64,.nil)])],[],[6000000]⟩
def Nz:List (Ex×Sk):=[((.exit 0),⟨[(3,.v false [(.sl 3 [.int .i64],(.own 6000000))])],[],[6000000]⟩)]
def Gk:Eh:=fun i st=>cond (Nat.beq i 5) (lam Ny 6000000 Nz D4 st) <| cond (Nat.beq i 10) (lam L9 11000000 Ma Dl st) <| .fail
theorem Vt (cx:Cx) (hp:cx.pin.length≤0):Ck Try.prog cx Try.f89.ntmps Gk (Aq Try.f89 0):=C5 Lf hp (B9 (by kernel_rfl:A5 (Aq Try.f89 0)=[]) trivial) (by kernel_rfl) (fun d=>(by kernel_rfl:bod (Cj Gj) 0 Try.f89.ntmps Gk (Aq Try.f89 0) Ny 6000000 Nz d=D4 d))
theorem Ug (cx:Cx) (hp:cx.pin.length≤0):Ck Try.prog cx Try.f89.ntmps Gk (Aq Try.f89 1):=C5 Lf hp (B9 (by kernel_rfl:A5 (Aq Try.f89 1)=[]) trivial) (by kernel_rfl) (fun d=>(by kernel_rfl:bod (Cj Gj) 0 Try.f89.ntmps Gk (Aq Try.f89 1) L9 11000000 Ma d=Dl d))
theorem Aat:Fn Try.prog 89 .plain Rk:=Kj Lf Try.func89 (by kernel_rfl) (by kernel_rfl) (fun cx b hp hb=>B9 (by kernel_rfl:A5 (Try.f89.body.getD .skip)=[Aq Try.f89 0,Aq Try.f89 1]) ⟨Vt cx hp,Ug cx hp,trivial⟩ b hb) (fun d=>(by kernel_rfl:Et (Cj Gj) 0 Gk Try.f89 .plain (mkA [g_0] d)=(Ip d.1).run fun r=>some ([rv g_4 r],[])))
def Rl:Az:=Ax [g_4,g_0] (fun d=>(Iq d.1 d.2.1).val) fun r=>([rv g_4 r],[])
def Gl:Fns:=[(87,.plain,Tk),(88,.plain,Ael),(89,.plain,Rk),(90,.plain,Xp)]
theorem Lg:CfgOk Try.prog (Cj Gl):=Er Js He (show Hp Try.prog Gl from⟨Abi,Aio,Aat,Abk,trivial⟩)
def Mb:Sk:=⟨[(0,.v false [(.sl 3 [.int .i64],.ro)]),(5,.v false [(.sl 3 [.int .i64],(.own 23000000))]),(19,.v false [(.sl 3 [.int .i64],(.own 23000001))]),(20,.v false [(.int .i64,.nil)])],[],[23000000,23000001]⟩
def Mc:List (Ex×Sk):=[((.exit 2),⟨[(5,.v false [(.sl 3 [.int .i64],(.own 23000000))])],[],[23000000]⟩)]
def N0:Sk:=⟨[(0,.v false [(.sl 3 [.int .i64],.ro)]),(5,.v false [(.sl 3 [.int .i64],(.own 9000000))]),(6,.v false [(.sl 3 [.int .i64],(.own 9000001))]),(7,.v false [(.sl 3 [.int .i64],(.own 9000002))]),(8,.v false [(.int .i64,.nil)]),(9,.v false [(.int .i64,.nil)]),(10,.v false [(.int .i64,.nil)]),(11,.v false [(.int .i64,.nil)]),(12,.v false [(.int .i64,.nil)]),(13,.v false [(.int .i64,.nil)]),(14,.v false [(.int .i64,.nil)]),(15,.v false [(.int .i64,.nil)]),(16,.v false [(.int .i64,.nil)])],[],[9000000,9000001,9000002]⟩
def N3:List (Ex×Sk):=[((.exit 0),⟨[(0,.v false [(.sl 3 [.int .i64],.ro)]),(5,.v false [(.sl 3 [.int .i64],(.own 9000000))]),(8,.v false [(.int .i64,.nil)]),(9,.v false [(.int .i64,.nil)]),(10,.v false [(.int .i64,.nil)]),(11,.v false [(.int .i64,.nil)]),(12,.v false [(.int .i64,.nil)]),(13,.v false [(.int .i64,.nil)]),(14,.v false [(.int .i64,.nil)]),(15,.v false [(.int .i64,.nil)])],[],[9000000]⟩)]
def Gm:Eh:=fun i st=>cond (Nat.beq i 8) (lam N0 9000000 N3 Dc st) <| cond (Nat.beq i 22) (lam Mb 23000000 Mc Cv st) <| .fail
theorem Vu (cx:Cx) (hp:cx.pin.length≤0):Ck Try.prog cx Try.f82.ntmps Gm (Aq Try.f82 0):=C5 Lg hp (B9 (by kernel_rfl:A5 (Aq Try.f82 0)=[]) trivial) (by kernel_rfl) (fun d=>(by kernel_rfl:bod (Cj Gl) 0 Try.f82.ntmps Gm (Aq Try.f82 0) N0 9000000 N3 d=Dc d))
theorem Uh (cx:Cx) (hp:cx.pin.length≤0):Ck Try.prog cx Try.f82.ntmps Gm (Aq Try.f82 1):=C5 Lg hp (B9 (by kernel_rfl:A5 (Aq Try.f82 1)=[]) trivial) (by kernel_rfl) (fun d=>(by kernel_rfl:bod (Cj Gl) 0 Try.f82.ntmps Gm (Aq Try.f82 1) Mb 23000000 Mc d=Cv d))
theorem Aau:Fn Try.prog 82 .plain Rl:=Kj Lg Try.func82 (by kernel_rfl) (by kernel_rfl) (fun cx b hp hb=>B9 (by kernel_rfl:A5 (Try.f82.body.getD .skip)=[Aq Try.f82 0,Aq Try.f82 1]) ⟨Vu cx hp,Uh cx hp,trivial⟩ b hb) (fun d=>(by kernel_rfl:Et (Cj Gl) 0 Gm Try.f82 .plain (mkA [g_4,g_0] d)=(Iq d.1 d.2.1).run fun r=>some ([rv g_4 r],[])))
def Zq:Az:=Ax [g_4] (fun d=>(Q5 d.1).val) fun r=>([rv g_0 r],[])
theorem Afk:Fn Try.prog 83 .plain Zq:=C6 [(60,.plain,K8)] ⟨L3,trivial⟩ ⟨[(0,.v false [(.sl 3 [.int .i64],.ro)]),(3,.v false [(.sl 5 [.int .u8],(.own 4000000))]),(4,.v false [(.int .i64,.nil)])],[],[4000000]⟩ 4000000 [((.exit 0),⟨[(3,.v false [(.sl 5 [.int .u8],(.own 4000000))])],[],[4000000]⟩)] 3 Fw Try.func83 0
def Xq:Az:=Ax [g_0] (fun d=>(Xd d.1).val) fun r=>([rv g_0 r],[])
theorem Abl:Fn Try.prog 71 .plain Xq:=C6 [(80,.plain,Aek),(81,.plain,Zp),(82,.plain,Rl),(83,.plain,Zq)] ⟨Ain,Afj,Aau,Afk,trivial⟩ ⟨[(3,.v false [(.sl 5 [.int .u8],(.own 7000000))]),(4,.v false [(.sl 3 [.int .i64],(.own 7000001))]),(5,.v false [(.int .i64,.nil)])],[],[7000000,7000001]⟩ 7000000 [((.exit 0),⟨[(4,.v false [(.sl 3 [.int .i64],(.own 7000000))])],[],[7000000]⟩)] 6 H4 Try.func71 0
def Rm:Az:=Ax [g_0] (fun d=>(K2 d.1).val) fun r=>([rv g_0 r],[])
theorem Aav:Fn Try.prog 70 .plain Rm:=C6 [(71,.plain,Xq)] ⟨Abl,trivial⟩ ⟨[(3,.v false [(.sl 5 [.int .u8],(.own 7000000))])],[],[7000000]⟩ 7000000 [((.exit 0),⟨[(3,.v false [(.sl 5 [.int .u8],(.own 7000000))])],[],[7000000]⟩)] 6 Gz Try.func70 0
def Lh:Az:=Ax [g_0,g_0] (fun d=>(T9 d.1 d.2.1).val) fun r=>([rv g_0 r],[])
theorem Md:Fn Try.prog 50 .plain Lh:=C6 [(70,.plain,Rm),(71,.plain,Xq)] ⟨Aav,Abl,trivial⟩ ⟨[(1,.v false [(.sl 5 [.int .u8],.ro)]),(5,.v false [(.sl 5 [.int .u8],(.own 8000000))]),(6,.v false [(.sl 5 [.int .u8],(.own 8000001))]),(7,.v false [(.sl 5 [.int .u8],(.own 8000002))]),(8,.v false [(.int .i64,.nil)])],[],[8000000,8000001,8000002]⟩ 8000000 [((.exit 0),⟨[(1,.v false [(.sl 5 [.int .u8],.ro)]),(6,.v false [(.sl 5 [.int .u8],(.own 8000000))]),(7,.v false [(.sl 5 [.int .u8],(.own 8000001))])],[],[8000000,8000001]⟩)] 7 G2 Try.func50 0
def Aem:Az:=Ax [g_0,g_0] (fun d=>(Xe d.1 d.2.1).val) fun r=>([rv g_0 r],[])
theorem Aip:Fn Try.prog 36 .plain Aem:=mkF [(50,.plain,Lh)] ⟨Md,trivial⟩ Try.func36 0
def Vv:Az:=Ax [g_0,g_0,g_3] (fun d=>(Pc d.1 d.2.1 d.2.2.1).val) fun r=>([rv g_0 r.1,rv g_1 r.2],[])
theorem Ads:Fn Try.prog 72 .plain Vv:=C6 [(59,.plain,Fl),(50,.plain,Lh)] ⟨Fc,Md,trivial⟩ ⟨[(0,.v false [(.sl 5 [.int .u8],.ro)]),(1,.v false [(.sl 5 [.int .u8],.ro)]),(2,.v false [(.int .i64,.nil)]),(8,.v false [(.sl 5 [.int .u8],(.own 7000000))]),(9,.v false [(.sl 5 [.int .u8],(.own 7000001))]),(10,.v false [(.int .i64,.nil)])],[],[7000000,7000001]⟩ 7000000 [((.exit 0),⟨[(2,.v false [(.int .i64,.nil)]),(8,.v false [(.sl 5 [.int .u8],(.own 7000000))])],[],[7000000]⟩)] 6 E0 Try.func72 0
def Vw:Az:=Ax [g_0,Ak3] (fun d=>(Pe d.1 d.2.1).val) fun r=>([rv g_0 r],[])
theorem Adt:Fn Try.prog 51 .plain Vw:=mkF [(72,.plain,Vv)] ⟨Ads,trivial⟩ Try.func51 0
def Tl:Az:=Ax [g_0,g_0,g_3] (fun d=>(M9 d.1 d.2.1 d.2.2.1).val) fun r=>([rv g_0 r],[])
theorem Abm:Fn Try.prog 78 .plain Tl:=mkF [(59,.plain,Fl),(60,.plain,K8),(50,.plain,Lh)] ⟨Fc,L3,Md,trivial⟩ Try.func78 0
def Vx:Az:=Ax [g_0,g_0,g_3] (fun d=>(Pf d.1 d.2.1 d.2.2.1).val) fun r=>([rv g_0 r],[])
theorem Adu:Fn Try.prog 61 .plain Vx:=C6 [(59,.plain,Fl),(78,.plain,Tl)] ⟨Fc,Abm,trivial⟩ ⟨[(0,.v false [(.sl 5 [.int .u8],.ro)]),(1,.v false [(.sl 5 [.int .u8],.ro)]),(2,.v false [(.int .i64,.nil)]),(7,.v false [(.sl 5 [.int .u8],(.own 6000000))]),(8,.v false [(.int .i64,.nil)])],[],[6000000]⟩ 6000000 [((.exit 0),⟨[(2,.v false [(.int .i64,.nil)]),(7,.v false [(.sl 5 [.int .u8],(.own 6000000))])],[],[6000000]⟩)] 5 E4 Try.func61 0
def Aen:Az:=Ax [g_0,g_0,g_0] (fun d=>(Xg d.1 d.2.1 d.2.2.1).val) fun r=>([rv g_0 r],[])
theorem Aiq:Fn Try.prog 35 .plain Aen:=C6 [(61,.plain,Vx)] ⟨Adu,trivial⟩ ⟨[(2,.v false [(.sl 5 [.int .u8],.ro)]),(7,.v false [(.sl 5 [.int .u8],(.own 7000000))]),(8,.v false [(.sl 5 [.int .u8],(.own 7000001))]),(9,.v false [(.int .i64,.nil)])],[],[7000000,7000001]⟩ 7000000 [((.exit 0),⟨[(7,.v false [(.sl 5 [.int .u8],(.own 7000000))])],[],[7000000]⟩)] 6 H5 Try.func35 0
def Abn:Az:=Ax [g_6,Xi,Q8] (fun d=>(Ph d.1 d.2.1 d.2.2.1).val) fun r=>([rv g_0 r.1,rv g_1 r.2],[])
def Li:Fns:=[(47,.plain,Vs),(48,.plain,Nb),(49,.plain,Aej),(50,.plain,Lh),(36,.plain,Aem),(51,.plain,Vw),(35,.plain,Aen)]
theorem Ui:CfgOk Try.prog (Cj Li):=Er Js He (show Hp Try.prog Li from⟨Adr,Ra,Aim,Md,Aip,Adt,Aiq,trivial⟩)
def Vy:Sk:=⟨[(0,.v false [(.sl 42 h_3,.ro)]),(1,.v false [(.sl 72 h_4,.ro)]),(2,.v false [(.sl 22 [.sl 5 [.int .u8]],.ro)]),(8,.v false [(.sl 22 [.sl 5 [.int .u8]],(.own 6000000))]),(9,.v false [(.int .i64,.nil)])],[],[6000000]⟩
def Vz:List (Ex×Sk):=[(.ret,⟨[(6,.v false [(.sl 5 [.int .u8],(.own 6000000))]),(7,.v false [(.bool,.nil)])],[],[6000000]⟩),((.exit 0),⟨[(8,.v false [(.sl 22 [.sl 5 [.int .u8]],(.own 6000000))])],[],[6000000]⟩)]
def Tm:Sk:=⟨[(0,.v false [(.sl 42 h_3,.ro)]),(1,.v false [(.sl 72 h_4,.ro)]),(2,.v false [(.sl 22 [.sl 5 [.int .u8]],.ro)]),(8,.v false [(.sl 22 [.sl 5 [.int .u8]],(.own 35000000))]),(9,.v false [(.int .i64,.nil)]),(11,.v false [(.int .i64,.nil)]),(12,.v false [(.sl 5 [.int .u8],(.own 35000001))]),(15,.v false [(.int .i64,.nil)])],[],[35000000,35000001]⟩
def Tn:List (Ex×Sk):=[((.exit 3),⟨[(0,.v false [(.sl 42 h_3,.ro)]),(1,.v false [(.sl 72 h_4,.ro)]),(2,.v false [(.sl 22 [.sl 5 [.int .u8]],.ro)]),(8,.v false [(.sl 22 [.sl 5 [.int .u8]],(.own 35000000))]),(9,.v false [(.int .i64,.nil)]),(11,.v false [(.int .i64,.nil)]),(12,.v false [(.sl 5 [.int .u8],(.own 35000001))])],[],[35000000,35000001]⟩)]
def Lj:Eh:=fun i st=>cond (Nat.beq i 34) (lam Tm 35000000 Tn Ep st) <| cond (Nat.beq i 5) (lam Vy 6000000 Vz Du st) <| .fail
theorem Abo (cx:Cx) (hp:cx.pin.length≤0):Ck Try.prog cx Try.f15.ntmps Lj (Aq Try.f15 1):=C5 Ui hp (B9 (by kernel_rfl:A5 (Aq Try.f15 1)=[]) trivial) (by kernel_rfl) (fun d=>(by kernel_rfl:bod (Cj Li) 0 Try.f15.ntmps Lj (Aq Try.f15 1) Tm 35000000 Tn d=Ep d))
theorem Adv (cx:Cx) (hp:cx.pin.length≤0):Ck Try.prog cx Try.f15.ntmps Lj (Aq Try.f15 0):=C5 Ui hp (B9 (by kernel_rfl:A5 (Aq Try.f15 0)=[Aq Try.f15 1]) ⟨Abo cx hp,trivial⟩) (by kernel_rfl) (fun d=>(by kernel_rfl:bod (Cj Li) 0 Try.f15.ntmps Lj (Aq Try.f15 0) Vy 6000000 Vz d=Du d))
theorem Ag9:Fn Try.prog 15 .plain Abn:=Kj Ui Try.func15 (by kernel_rfl) (by kernel_rfl) (fun cx b hp hb=>B9 (by kernel_rfl:A5 (Try.f15.body.getD .skip)=[Aq Try.f15 0]) ⟨Adv cx hp,trivial⟩ b hb) (fun d=>(by kernel_rfl:Et (Cj Li) 0 Lj Try.f15 .plain (mkA [g_6,Xi,Q8] d)=(Ph d.1 d.2.1 d.2.2.1).run fun r=>some ([rv g_0 r.1,rv g_1 r.2],[])))
def Abp:Az:=Ax [g_0,g_0] (fun d=>(Ub d.1 d.2.1).val) fun r=>([rv g_1 r],[])
theorem Aha:Fn Try.prog 12 .plain Abp:=mkF [] trivial Try.func12 0
def Ju:List (Bool×List Sh):=[g_0]
def To (r:(Bool×Unit)):List RV×List RV:=([rv g_1 r],[])
def Adw:Az:=Ax Ju (fun d=>(Hd d.1).val) To
theorem Abq:Fn Try.prog 4 .plain Adw:=mkF [(5,.plain,Aef),(14,.view,Rd),(10,.plain,Abh),(15,.plain,Abn),(12,.plain,Abp),(16,.plain,Pn)] ⟨Aii,Aaj,Ag7,Ag9,Aha,Ti,trivial⟩ Try.func4 0
end
end Go.Proofs.Ytmhhajdeafijmaa

/-
  That the functions of the seat answer what the terms of text W say; nothing is assumed.
-/
import Derived.Test.YtmhhajdeafijmaaW
import Derived.Test.YtmhhajdeafijmaaProg
import Derived.KernelRfl
namespace Go.Proofs.Ytmhhajdeafijmaa
open Go.RowKit
set_option linter.unusedVariables false
set_option maxRecDepth 100000
set_option maxHeartbeats 4000000
noncomputable section
abbrev h_0:List Sh:=[.int .i64,.int .i64,.bool,.int .u8]
abbrev h_1:List Sh:=[.sl 5 [.int .u8],.int .i64,.int .i64]
abbrev h_2:List Sh:=[.sl 3 [.int .i64],.sl 5 [.int .u8],.int .i64]
abbrev h_3:List Sh:=[.int .i64,.int .i64,.int .i64,.sl 5 [.int .u8]]
abbrev h_4:List Sh:=[.int .i64,.int .i64,.int .i64,.int .i64,.sl 5 [.int .u8]]
abbrev h_5:List Sh:=[.int .i64,.int .i64,.sl 5 [.int .u8],.sl 5 [.int .u8],.int .i64,.sl 5 [.int .u8],.sl 5 [.int .u8],.int .i64,.int .i64,.sl 5 [.int .u8],.sl 5 [.int .u8]]
abbrev g_0:Bool×List Sh:=(false,[.sl 5 [.int .u8]])
abbrev g_1:Bool×List Sh:=(false,[.bool])
abbrev g_2:Bool×List Sh:=(true,h_1)
abbrev g_3:Bool×List Sh:=(false,[.int .i64])
abbrev g_4:Bool×List Sh:=(false,[.sl 3 [.int .i64]])
abbrev g_5:Bool×List Sh:=(true,h_3)
abbrev g_6:Bool×List Sh:=(false,[.sl 42 h_3])
abbrev g_7:Bool×List Sh:=(true,[.int .i64,.int .i64])
abbrev g_8:Bool×List Sh:=(true,h_5)
abbrev g_9:Bool×List Sh:=(true,h_4)
abbrev Xl:Bool×List Sh:=(false,[.sl 72 h_4])
abbrev Ra:Bool×List Sh:=(false,[.sl 22 [.sl 5 [.int .u8]]])
abbrev Aa6:Bool×List Sh:=(true,h_2)
abbrev Amb:Bool×List Sh:=(false,[.int .u8])
abbrev Ak4:Bool×List Sh:=(false,[.str])
def tys:List (Nat×Ty):=[(3,⟨false,[.int .i64],[],false,[]⟩),
 (4,⟨false,[.bool],[],false,[]⟩),
 (5,⟨false,[.int .u8],[],false,[]⟩),
 (9,⟨false,[.str],[],false,[]⟩),
 (22,⟨false,[.sl 5 [.int .u8]],[],false,[]⟩),
 (26,⟨false,[.sl 42 h_3],[],false,[]⟩),
 (29,⟨true,h_5,[(0,1),(1,1),(2,1),(3,1),(4,1),(5,1),(6,1),(7,1),(8,1),(9,1),(10,1)],false,[]⟩),
 (32,⟨false,[.sl 22 [.sl 5 [.int .u8]]],[],false,[]⟩),
 (35,⟨false,[.sl 72 h_4],[],false,[]⟩),
 (42,⟨true,h_3,[(0,1),(1,1),(2,1),(3,1)],false,[]⟩),
 (48,⟨false,[.sl 3 [.int .i64]],[],false,[]⟩),
 (70,⟨true,[.int .i64,.int .i64],[(0,1),(1,1)],true,[]⟩),
 (72,⟨true,h_4,[(0,2),(2,2),(4,1)],false,[]⟩),
 (77,⟨true,h_1,[(0,1),(1,1),(2,1)],false,[]⟩),
 (85,⟨false,[.int .u64],[],false,[]⟩),
 (93,⟨true,h_2,[(0,1),(1,1),(2,1)],false,[]⟩)]
theorem Hg:Afi Try.prog tys=true:=by kernel_rfl
theorem Ju:Try.prog.follows .mixedOrders=true:=by kernel_rfl
abbrev Cj (C:Fns):Cfg:=⟨Ve tys,Jv C,Iv C,3,4⟩
theorem mkF {f:FuncId} {fn:Func} {kd:Kind} {ps:List (Bool×List Sh)} {R:Type} {T:Hx ps→Tree R} {rvs:R→List RV×List RV} (C:Fns) (hc:Hr Try.prog C) (hf:Try.prog.funcs[f]? =some fn) (np:Nat) (hn:(fn.name== "runtime.NumGoroutine")=false:=by kernel_rfl) (hb:fn.body.isSome=true:=by kernel_rfl) (hl:A4 (fn.body.getD .skip)=[]:=by kernel_rfl)
  (he: ∀d,Et (Cj C) np (fun _ _=>.fail) fn kd (mkA ps d)=(T d).run fun r=>some (rvs r):=by intro d;kernel_rfl):Fn Try.prog f kd (Aw ps (fun d=>(T d).val) rvs):=
 Km (Er Ju Hg hc) hf hn hb (fun cx b hp hbb=>by rw[hl]at hbb;cases hbb) he
abbrev lpq (r:Nat) (K:Sk) (z:Nat) (X:List (Ex×Sk)) (B:K.den→Option (K.den⊕K8 X)):Eh:=fun i st=>cond (Nat.beq i r) (lam K z X B st) .fail
theorem C6 {f:FuncId} {fn:Func} {kd:Kind} {ps:List (Bool×List Sh)} {R:Type} {T:Hx ps→Tree R} {rvs:R→List RV×List RV} (C:Fns) (hc:Hr Try.prog C) (K:Sk) (z:Nat) (X:List (Ex×Sk)) (r:Nat) (B:K.den→Option (K.den⊕K8 X)) (hf:Try.prog.funcs[f]? =some fn) (np:Nat) (hn:(fn.name== "runtime.NumGoroutine")=false:=by kernel_rfl) (hb:fn.body.isSome=true:=by kernel_rfl) (h1:A4 (fn.body.getD .skip)=[Aq fn 0]:=by kernel_rfl) (h2:A4 (Aq fn 0)=[]:=by kernel_rfl)
  (hq:lpq r K z X B (Ga (Aq fn 0))=lam K z X B:=by kernel_rfl) (hl: ∀d,bod (Cj C) np fn.ntmps (lpq r K z X B) (Aq fn 0) K z X d=B d:=by intro d;kernel_rfl)
  (he: ∀d,Et (Cj C) np (lpq r K z X B) fn kd (mkA ps d)=(T d).run fun r=>some (rvs r):=by intro d;kernel_rfl):Fn Try.prog f kd (Aw ps (fun d=>(T d).val) rvs):=
 Km (Er Ju Hg hc) hf hn hb (fun cx b hp hbb=>B8 h1 ⟨C5 (Er Ju Hg hc) hp (B8 h2 trivial) hq hl,trivial⟩ b hbb) he
def Aei:Ay:=Aw [g_0] (fun d=>(Aee d.1).val) fun r=>([rv g_1 r],[])
theorem Ail:Fn Try.prog 5 .plain Aei:=mkF [] trivial Try.func5 0
def Zo:Ay:=Aw [g_0] (fun d=>(Qy d.1).val) fun r=>([rv g_2 r],[])
theorem Afj:Fn Try.prog 17 .ret Zo:=C6 [] trivial ⟨[(0,.v false [(.sl 5 [.int .u8],.ro)]),(3,.v false [(.int .i64,.nil)]),(4,.v false [(.int .i64,.nil)])],[],[]⟩ 4000000 [((.exit 0),⟨[(0,.v false [(.sl 5 [.int .u8],.ro)]),(3,.v false [(.int .i64,.nil)])],[],[]⟩)] 3 Jt Try.func17 0
def Pk:Ay:=Aw [g_2] (fun d=>(Om d.1).val) fun r=>([rv g_3 r.1],[rv g_2 r.2])
theorem Td:Fn Try.prog 53 (.box [3] true true) Pk:=mkF [] trivial Try.func53 1
def De:Ay:=Aw [g_2,g_3] (fun d=>(Mt d.1 d.2.1).val) fun r=>([rv g_3 r.1],[rv g_2 r.2])
theorem Dh:Fn Try.prog 45 (.box [3] true true) De:=mkF [(53,(.box [3] true true),Pk)] ⟨Td,trivial⟩ Try.func45 1
def H9:Ay:=Aw [g_2,g_4] (fun d=>(Q0 d.1 d.2.1).val) fun r=>([rv g_3 r.1],[rv g_2 r.2])
theorem Iw:Fn Try.prog 19 (.box [3] true true) H9:=mkF [(45,(.box [3] true true),De)] ⟨Dh,trivial⟩ Try.func19 1
def Fx:Ay:=Aw [g_2,g_3] (fun d=>(Mu d.1 d.2.1).val) fun r=>([rv g_0 r.1],[rv g_2 r.2])
theorem Gb:Fn Try.prog 18 (.box [3] true true) Fx:=C6 [(53,(.box [3] true true),Pk)] ⟨Td,trivial⟩ ⟨[(0,.box 0 0),(1,.v false [(.int .i64,.nil)]),(5,.v false [(.sl 5 [.int .u8],(.own 4000000))]),(6,.v false [(.int .i64,.nil)])],[(0,[(.sl 5 [.int .u8],(.pin 0)),(.int .i64,.nil),(.int .i64,.nil)])],[4000000]⟩ 4000000 [((.exit 0),⟨[(0,.box 0 0),(5,.v false [(.sl 5 [.int .u8],(.own 4000000))])],[(0,[(.sl 5 [.int .u8],(.pin 0)),(.int .i64,.nil),(.int .i64,.nil)])],[4000000]⟩)] 3 Fs Try.func18 1
def Rb:Ay:=Aw [g_2] (fun d=>(Q1 d.1).val) fun r=>([rv g_5 r.1],[rv g_2 r.2])
theorem Vf:Fn Try.prog 66 (.box [3] true true) Rb:=mkF [(19,(.box [3] true true),H9),(18,(.box [3] true true),Fx),(45,(.box [3] true true),De)] ⟨Iw,Gb,Dh,trivial⟩ Try.func66 1
def Nd:Ay:=Aw [g_3] (fun d=>(Mv d.1).val) fun r=>([rv g_3 r],[])
theorem Rc:Fn Try.prog 48 .plain Nd:=mkF [] trivial Try.func48 0
def Qp:Ay:=Aw [g_2,g_3] (fun d=>(Hq d.1 d.2.1).val) fun r=>([rv g_6 r.1],[rv g_2 r.2])
def Ed:Fns:=[(45,(.box [3] true true),De),(66,(.box [3] true true),Rb),(48,.plain,Nd)]
theorem Hs:CfgOk Try.prog (Cj Ed):=Er Ju Hg (show Hr Try.prog Ed from⟨Dh,Vf,Rc,trivial⟩)
def K9:Sk:=⟨[(0,.box 0 0),(5,.v false [(.sl 42 h_3,(.own 14000000))]),(6,.v false [(.int .i64,.nil)])],[(0,[(.sl 5 [.int .u8],(.pin 0)),(.int .i64,.nil),(.int .i64,.nil)])],[14000000]⟩
def La:List (Ex×Sk):=[((.exit 4),⟨[(0,.box 0 0),(5,.v false [(.sl 42 h_3,(.own 14000000))])],[(0,[(.sl 5 [.int .u8],(.pin 0)),(.int .i64,.nil),(.int .i64,.nil)])],[14000000]⟩)]
def L0:Sk:=⟨[(0,.box 0 0),(5,.v false [(.sl 42 h_3,(.own 5000000))]),(6,.v false [(.int .i64,.nil)]),(7,.v false [(.int .i64,.nil)])],[(0,[(.sl 5 [.int .u8],(.pin 0)),(.int .i64,.nil),(.int .i64,.nil)])],[5000000]⟩
def L3:List (Ex×Sk):=[((.exit 0),⟨[(0,.box 0 0),(5,.v false [(.sl 42 h_3,(.own 5000000))]),(6,.v false [(.int .i64,.nil)])],[(0,[(.sl 5 [.int .u8],(.pin 0)),(.int .i64,.nil),(.int .i64,.nil)])],[5000000]⟩)]
def L4:Sk:=⟨[(0,.box 0 0),(5,.v false [(.sl 42 h_3,(.own 9000000))]),(6,.v false [(.int .i64,.nil)]),(7,.v false [(.int .i64,.nil)]),(8,.box 8 0),(9,.v false [(.int .i64,.nil)])],[(0,[(.sl 5 [.int .u8],(.pin 0)),(.int .i64,.nil),(.int .i64,.nil)]),(8,[(.int .i64,.nil),(.int .i64,.nil),(.int .i64,.nil),(.sl 5 [.int .u8],(.own 9000001))])],[9000000,9000001]⟩
def L5:List (Ex×Sk):=[((.exit 2),⟨[(0,.box 0 0),(5,.v false [(.sl 42 h_3,(.own 9000000))]),(6,.v false [(.int .i64,.nil)]),(7,.v false [(.int .i64,.nil)]),(8,.box 8 0)],[(0,[(.sl 5 [.int .u8],(.pin 0)),(.int .i64,.nil),(.int .i64,.nil)]),(8,[(.int .i64,.nil),(.int .i64,.nil),(.int .i64,.nil),(.sl 5 [.int .u8],(.own 9000001))])],[9000000,9000001]⟩)]
def Dp:Eh:=fun i st=>cond (Nat.beq i 8) (lam L4 9000000 L5 Eg st) <| cond (Nat.beq i 4) (lam L0 5000000 L3 F3 st) <| cond (Nat.beq i 13) (lam K9 14000000 La Fj st) <| .fail
theorem Uf (cx:Cx) (hp:cx.pin.length≤1):Ck Try.prog cx Try.f42.ntmps Dp (Aq Try.f42 1):=C5 Hs hp (B8 (by kernel_rfl:A4 (Aq Try.f42 1)=[]) trivial) (by kernel_rfl) (fun d=>(by kernel_rfl:bod (Cj Ed) 1 Try.f42.ntmps Dp (Aq Try.f42 1) L4 9000000 L5 d=Eg d))
theorem Ug (cx:Cx) (hp:cx.pin.length≤1):Ck Try.prog cx Try.f42.ntmps Dp (Aq Try.f42 0):=C5 Hs hp (B8 (by kernel_rfl:A4 (Aq Try.f42 0)=[Aq Try.f42 1]) ⟨Uf cx hp,trivial⟩) (by kernel_rfl) (fun d=>(by kernel_rfl:bod (Cj Ed) 1 Try.f42.ntmps Dp (Aq Try.f42 0) L0 5000000 L3 d=F3 d))
theorem S9 (cx:Cx) (hp:cx.pin.length≤1):Ck Try.prog cx Try.f42.ntmps Dp (Aq Try.f42 2):=C5 Hs hp (B8 (by kernel_rfl:A4 (Aq Try.f42 2)=[]) trivial) (by kernel_rfl) (fun d=>(by kernel_rfl:bod (Cj Ed) 1 Try.f42.ntmps Dp (Aq Try.f42 2) K9 14000000 La d=Fj d))
theorem Xm:Fn Try.prog 42 (.box [3] true true) Qp:=Km Hs Try.func42 (by kernel_rfl) (by kernel_rfl) (fun cx b hp hb=>B8 (by kernel_rfl:A4 (Try.f42.body.getD .skip)=[Aq Try.f42 0,Aq Try.f42 2]) ⟨Ug cx hp,S9 cx hp,trivial⟩ b hb) (fun d=>(by kernel_rfl:Et (Cj Ed) 1 Dp Try.f42 (.box [3] true true) (mkA [g_2,g_3] d)=(Hq d.1 d.2.1).run fun r=>some ([rv g_6 r.1],[rv g_2 r.2])))
def Pm:Ay:=Aw [g_2,g_3] (fun d=>(On d.1 d.2.1).val) fun r=>([rv g_1 r.1],[rv g_2 r.2])
theorem Te:Fn Try.prog 43 (.box [3] true true) Pm:=mkF [(45,(.box [3] true true),De)] ⟨Dh,trivial⟩ Try.func43 1
def Vg:Ay:=Aw [g_2] (fun d=>(Oo d.1).val) fun r=>([rv g_5 r.1],[rv g_2 r.2])
theorem Adk:Fn Try.prog 44 (.box [3] true true) Vg:=mkF [(66,(.box [3] true true),Rb),(45,(.box [3] true true),De),(19,(.box [3] true true),H9),(18,(.box [3] true true),Fx)] ⟨Vf,Dh,Iw,Gb,trivial⟩ Try.func44 1
def Fl:Ay:=Aw [g_3,g_3,g_3] (fun d=>(T4 d.1 d.2.1 d.2.2.1).val) fun r=>([rv g_1 r],[])
theorem Fc:Fn Try.prog 59 .plain Fl:=mkF [] trivial Try.func59 0
def Aa7:Ay:=Aw [g_3] (fun d=>(T5 d.1).val) fun r=>([rv g_7 r],[])
theorem Ag3:Fn Try.prog 67 .plain Aa7:=mkF [(59,.plain,Fl)] ⟨Fc,trivial⟩ Try.func67 0
def Vh:Ay:=Aw [g_2] (fun d=>(Ot d.1).val) fun r=>([rv g_8 r.1],[rv g_2 r.2])
theorem Adl:Fn Try.prog 69 (.box [3] true true) Vh:=mkF [(45,(.box [3] true true),De),(18,(.box [3] true true),Fx),(19,(.box [3] true true),H9)] ⟨Dh,Gb,Iw,trivial⟩ Try.func69 1
def Vi:Ay:=Aw [g_3] (fun d=>(Ov d.1).val) fun r=>([rv g_1 r],[])
theorem Adm:Fn Try.prog 33 .plain Vi:=mkF [(59,.plain,Fl)] ⟨Fc,trivial⟩ Try.func33 0
def Vj:Ay:=Aw [g_3,g_3] (fun d=>(Ox d.1 d.2.1).val) fun r=>([rv g_1 r],[])
theorem Adn:Fn Try.prog 34 .plain Vj:=mkF [] trivial Try.func34 0
def Tf:Ay:=Aw [g_8] (fun d=>(Mw d.1).val) fun r=>([rv g_1 r],[])
theorem Aa8:Fn Try.prog 62 .plain Tf:=mkF [(33,.plain,Vi),(59,.plain,Fl),(34,.plain,Vj)] ⟨Adm,Fc,Adn,trivial⟩ Try.func62 0
def Lb:Ay:=Aw [g_0,g_3,g_3] (fun d=>(T6 d.1 d.2.1 d.2.2.1).val) fun r=>([rv g_0 r],[])
theorem L6:Fn Try.prog 60 .plain Lb:=C6 [] trivial ⟨[(1,.v false [(.int .i64,.nil)]),(7,.v false [(.sl 5 [.int .u8],(.own 6000000))]),(8,.v false [(.int .i64,.nil)])],[],[6000000]⟩ 6000000 [((.exit 0),⟨[(7,.v false [(.sl 5 [.int .u8],(.own 6000000))])],[],[6000000]⟩)] 5 Ik Try.func60 0
def Rd:Ay:=Aw [g_8] (fun d=>(Kv d.1).val) fun r=>([rv g_0 r],[])
theorem Aak:Fn Try.prog 79 .plain Rd:=C6 [(62,.plain,Tf),(60,.plain,Lb)] ⟨Aa8,L6,trivial⟩ ⟨[(3,.v false [(.sl 5 [.int .u8],(.own 11000000))]),(4,.v false [(.int .i64,.nil)])],[],[11000000]⟩ 11000000 [((.exit 1),⟨[(3,.v false [(.sl 5 [.int .u8],(.own 11000000))])],[],[11000000]⟩)] 10 Dk Try.func79 0
def Re:Ay:=Aw [g_7,g_7,g_8] (fun d=>(Kx d.1 d.2.1 d.2.2.1).val) fun r=>([rv g_9 r],[])
theorem Aal:Fn Try.prog 68 .plain Re:=mkF [(79,.plain,Rd)] ⟨Aak,trivial⟩ Try.func68 0
def Tg:Ay:=Aw [g_2] (fun d=>(My d.1).val) fun r=>([rv g_9 r.1],[rv g_2 r.2])
theorem Aa9:Fn Try.prog 46 (.box [3] true true) Tg:=mkF [(43,(.box [3] true true),Pm),(45,(.box [3] true true),De),(67,.plain,Aa7),(19,(.box [3] true true),H9),(18,(.box [3] true true),Fx),(69,(.box [3] true true),Vh),(68,.plain,Re)] ⟨Te,Dh,Ag3,Iw,Gb,Adl,Aal,trivial⟩ Try.func46 1
def Rf:Ay:=Aw [g_0] (fun d=>(Il d.1).val) fun r=>([rv g_6 r.1,rv Xl r.2.1,rv Ra r.2.2],[])
def Gc:Fns:=[(17,.ret,Zo),(19,(.box [3] true true),H9),(42,(.box [3] true true),Qp),(43,(.box [3] true true),Pm),(44,(.box [3] true true),Vg),(45,(.box [3] true true),De),(46,(.box [3] true true),Tg),(18,(.box [3] true true),Fx)]
theorem Lc:CfgOk Try.prog (Cj Gc):=Er Ju Hg (show Hr Try.prog Gc from⟨Afj,Iw,Xm,Te,Adk,Dh,Aa9,Gb,trivial⟩)
def L7:Sk:=⟨[(5,.box 12 0),(6,.v false [(.sl 42 h_3,(.own 13000000))]),(7,.v false [(.sl 72 h_4,(.own 13000001))]),(9,.v false [(.sl 22 [.sl 5 [.int .u8]],(.own 13000002))]),(10,.v false [(.int .i64,.nil)])],[(12,[(.sl 5 [.int .u8],.rd),(.int .i64,.nil),(.int .i64,.nil)])],[13000000,13000001,13000002]⟩
def L8:List (Ex×Sk):=[((.exit 2),⟨[(6,.v false [(.sl 42 h_3,(.own 13000000))]),(7,.v false [(.sl 72 h_4,(.own 13000001))]),(9,.v false [(.sl 22 [.sl 5 [.int .u8]],(.own 13000002))])],[],[13000000,13000001,13000002]⟩)]
def Ns:Sk:=⟨[(5,.box 12 0),(6,.v false [(.sl 42 h_3,(.own 8000000))]),(7,.v false [(.sl 72 h_4,(.own 8000001))]),(8,.v false [(.int .i64,.nil)])],[(12,[(.sl 5 [.int .u8],.rd),(.int .i64,.nil),(.int .i64,.nil)])],[8000000,8000001]⟩
def Nt:List (Ex×Sk):=[((.exit 0),⟨[(5,.box 12 0),(6,.v false [(.sl 42 h_3,(.own 8000000))]),(7,.v false [(.sl 72 h_4,(.own 8000001))])],[(12,[(.sl 5 [.int .u8],.rd),(.int .i64,.nil),(.int .i64,.nil)])],[8000000,8000001]⟩)]
def Gd:Eh:=fun i st=>cond (Nat.beq i 7) (lam Ns 8000000 Nt Dz st) <| cond (Nat.beq i 12) (lam L7 13000000 L8 Dl st) <| .fail
theorem Vk (cx:Cx) (hp:cx.pin.length≤0):Ck Try.prog cx Try.f14.ntmps Gd (Aq Try.f14 0):=C5 Lc hp (B8 (by kernel_rfl:A4 (Aq Try.f14 0)=[]) trivial) (by kernel_rfl) (fun d=>(by kernel_rfl:bod (Cj Gc) 0 Try.f14.ntmps Gd (Aq Try.f14 0) Ns 8000000 Nt d=Dz d))
theorem Uh (cx:Cx) (hp:cx.pin.length≤0):Ck Try.prog cx Try.f14.ntmps Gd (Aq Try.f14 1):=C5 Lc hp (B8 (by kernel_rfl:A4 (Aq Try.f14 1)=[]) trivial) (by kernel_rfl) (fun d=>(by kernel_rfl:bod (Cj Gc) 0 Try.f14.ntmps Gd (Aq Try.f14 1) L7 13000000 L8 d=Dl d))
theorem Aam:Fn Try.prog 14 .view Rf:=Km Lc Try.func14 (by kernel_rfl) (by kernel_rfl) (fun cx b hp hb=>B8 (by kernel_rfl:A4 (Try.f14.body.getD .skip)=[Aq Try.f14 0,Aq Try.f14 1]) ⟨Vk cx hp,Uh cx hp,trivial⟩ b hb) (fun d=>(by kernel_rfl:Et (Cj Gc) 0 Gd Try.f14 .view (mkA [g_0] d)=(Il d.1).run fun r=>some ([rv g_6 r.1,rv Xl r.2.1,rv Ra r.2.2],[])))
def Rg:Ay:=Aw [g_3] (fun d=>(Kz d.1).val) fun r=>([rv g_3 r],[])
theorem Aan:Fn Try.prog 38 .plain Rg:=mkF [] trivial Try.func38 0
def Ei:Ay:=Aw [g_3,g_3,g_3] (fun d=>(Oz d.1 d.2.1 d.2.2.1).val) fun r=>([rv g_1 r],[])
theorem Es:Fn Try.prog 21 .plain Ei:=mkF [] trivial Try.func21 0
def Vl:Ay:=Aw [g_5] (fun d=>(O0 d.1).val) fun r=>([rv g_1 r],[])
theorem Ado:Fn Try.prog 39 .plain Vl:=mkF [(21,.plain,Ei)] ⟨Es,trivial⟩ Try.func39 0
def Xn:Ay:=Aw [g_0,g_3,g_3] (fun d=>(W2 d.1 d.2.1 d.2.2.1).val) fun r=>([rv g_0 r.1,rv g_1 r.2],[])
theorem Aba:Fn Try.prog 63 .plain Xn:=mkF [] trivial Try.func63 0
def Fm:Ay:=Aw [Ra] (fun d=>(O4 d.1).val) fun r=>([rv g_0 r],[])
theorem Fy:Fn Try.prog 22 .plain Fm:=C6 [] trivial ⟨[(3,.v false [(.sl 5 [.int .u8],(.own 4000000))]),(7,.v false [(.sl 22 [.sl 5 [.int .u8]],.ro)]),(8,.v false [(.int .i64,.nil)]),(9,.v false [(.int .i64,.nil)])],[],[4000000]⟩ 4000000 [((.exit 0),⟨[(3,.v false [(.sl 5 [.int .u8],(.own 4000000))])],[],[4000000]⟩)] 3 Eu Try.func22 0
def Zp:Ay:=Aw [g_0,g_0] (fun d=>(Q3 d.1 d.2.1).val) fun r=>([rv g_0 r],[])
theorem Afk:Fn Try.prog 64 .plain Zp:=C6 [] trivial ⟨[(1,.v false [(.sl 5 [.int .u8],.ro)]),(5,.v false [(.sl 5 [.int .u8],(.own 4000000))]),(9,.v false [(.sl 5 [.int .u8],.ro)]),(10,.v false [(.int .i64,.nil)]),(11,.v false [(.int .i64,.nil)])],[],[4000000]⟩ 4000000 [((.exit 0),⟨[(5,.v false [(.sl 5 [.int .u8],(.own 4000000))])],[],[4000000]⟩)] 3 Fv Try.func64 0
def Ge:Ay:=Aw [g_0] (fun d=>(Q5 d.1).val) fun r=>([rv g_0 r],[])
theorem G5:Fn Try.prog 25 .plain Ge:=mkF [] trivial Try.func25 0
def Zq:Ay:=Aw [] (fun d=>(Zk).val) fun r=>([rv g_4 r],[])
theorem Afl:Fn Try.prog 95 .plain Zq:=mkF [] trivial Try.func95 0
def Th:Ay:=Aw [] (fun d=>(Ta).val) fun r=>([rv Aa6 r],[])
theorem Abb:Fn Try.prog 86 .plain Th:=mkF [(95,.plain,Zq)] ⟨Afl,trivial⟩ Try.func86 0
def Ld:Ay:=Aw [g_4,g_3] (fun d=>(K0 d.1 d.2.1).val) fun r=>([rv g_1 r],[])
theorem Qq:Fn Try.prog 97 .plain Ld:=C6 [(21,.plain,Ei)] ⟨Es,trivial⟩ ⟨[(0,.v false [(.sl 3 [.int .i64],.ro)]),(1,.v false [(.int .i64,.nil)]),(7,.v false [(.sl 3 [.int .i64],.ro)]),(8,.v false [(.int .i64,.nil)]),(9,.v false [(.int .i64,.nil)])],[],[]⟩ 3000000 [(.ret,⟨[(4,.v false [(.bool,.nil)])],[],[]⟩),((.exit 0),⟨[(0,.v false [(.sl 3 [.int .i64],.ro)]),(1,.v false [(.int .i64,.nil)])],[],[]⟩)] 2 Ev Try.func97 0
def Pn:Ay:=Aw [Aa6] (fun d=>(O5 d.1).val) fun r=>([rv g_1 r],[])
theorem Ti:Fn Try.prog 91 .plain Pn:=mkF [(97,.plain,Ld),(21,.plain,Ei)] ⟨Qq,Es,trivial⟩ Try.func91 0
def Abc:Ay:=Aw [g_0,g_3,g_3] (fun d=>(T7 d.1 d.2.1 d.2.2.1).val) fun r=>([rv g_3 r.1,rv g_3 r.2.1,rv g_1 r.2.2],[])
theorem Ag4:Fn Try.prog 103 .plain Abc:=C6 [(63,.plain,Xn)] ⟨Aba,trivial⟩ ⟨[(1,.v false [(.int .i64,.nil)]),(2,.v false [(.int .i64,.nil)]),(11,.v false [(.int .i64,.nil)]),(29,.v false [(.sl 5 [.int .u8],(.own 9000000))]),(30,.v false [(.int .i64,.nil)]),(31,.v false [(.int .i64,.nil)])],[],[9000000]⟩ 9000000 [((.exit 0),⟨[(1,.v false [(.int .i64,.nil)]),(2,.v false [(.int .i64,.nil)]),(11,.v false [(.int .i64,.nil)])],[],[]⟩)] 8 Gy Try.func103 0
def Xo:Ay:=Aw [g_3,g_3] (fun d=>(W3 d.1 d.2.1).val) fun r=>([rv g_3 r],[])
theorem Abd:Fn Try.prog 100 .plain Xo:=mkF [] trivial Try.func100 0
def Rh:Ay:=Aw [g_0] (fun d=>(Ip d.1).val) fun r=>([rv g_4 r],[])
def Gf:Fns:=[(103,.plain,Abc),(100,.plain,Xo)]
theorem Le:CfgOk Try.prog (Cj Gf):=Er Ju Hg (show Hr Try.prog Gf from⟨Ag4,Abd,trivial⟩)
def Nu:Sk:=⟨[(3,.v false [(.sl 3 [.int .i64],(.own 10000000))]),(5,.v false [(.int .i64,.nil)])],[],[10000000]⟩
def Nv:List (Ex×Sk):=[((.exit 2),⟨[(3,.v false [(.sl 3 [.int .i64],(.own 10000000))])],[],[10000000]⟩)]
def Nw:Sk:=⟨[(0,.v false [(.sl 5 [.int .u8],.ro)]),(3,.v false [(.sl 3 [.int .i64],(.own 6000000))]),(4,.v false [(.int .i64,.nil)])],[],[6000000]⟩
def Nx:List (Ex×Sk):=[((.exit 0),⟨[(3,.v false [(.sl 3 [.int .i64],(.own 6000000))])],[],[6000000]⟩)]
def Gg:Eh:=fun i st=>cond (Nat.beq i 5) (lam Nw 6000000 Nx D0 st) <| cond (Nat.beq i 9) (lam Nu 10000000 Nv D3 st) <| .fail
theorem Vm (cx:Cx) (hp:cx.pin.length≤0):Ck Try.prog cx Try.f99.ntmps Gg (Aq Try.f99 0):=C5 Le hp (B8 (by kernel_rfl:A4 (Aq Try.f99 0)=[]) trivial) (by kernel_rfl) (fun d=>(by kernel_rfl:bod (Cj Gf) 0 Try.f99.ntmps Gg (Aq Try.f99 0) Nw 6000000 Nx d=D0 d))
theorem Vn (cx:Cx) (hp:cx.pin.length≤0):Ck Try.prog cx Try.f99.ntmps Gg (Aq Try.f99 1):=C5 Le hp (B8 (by kernel_rfl:A4 (Aq Try.f99 1)=[]) trivial) (by kernel_rfl) (fun d=>(by kernel_rfl:bod (Cj Gf) 0 Try.f99.ntmps Gg (Aq Try.f99 1) Nu 10000000 Nv d=D3 d))
theorem Aao:Fn Try.prog 99 .plain Rh:=Km Le Try.func99 (by kernel_rfl) (by kernel_rfl) (fun cx b hp hb=>B8 (by kernel_rfl:A4 (Try.f99.body.getD .skip)=[Aq Try.f99 0,Aq Try.f99 1]) ⟨Vm cx hp,Vn cx hp,trivial⟩ b hb) (fun d=>(by kernel_rfl:Et (Cj Gf) 0 Gg Try.f99 .plain (mkA [g_0] d)=(Ip d.1).run fun r=>some ([rv g_4 r],[])))
theorem Ag5 (n:Int) (w:World) (h0:0≤n) (h1:n≤63):
  Calls Try.prog 101 #[.int .i64 n] w (Ret w (.int .i64 (Hh[n.toNat]?.getD 0))):=by
 have hx: ∃x,Hh[n.toNat]? =some x:=⟨_,List.getElem?_eq_getElem (by simp[Hh];omega)⟩
 obtain⟨x,hx⟩:=hx
 have hcell:(Ri 105 w Vo).cell? ⟨w.heap.size,n.toNat,none⟩=some (.int .i64 x):=by
  rw[Adp];unfold Vo;rw[List.getElem?_toArray,List.getElem?_map,hx];rfl
 rw[hx]
 go_enter Try.func101,Try.ntmps101
 go_wp2_with (first|(refine Aap rfl 105 _ rfl Vo (by kernel_rfl) ?_)|(refine Aaq rfl 105 rfl _ _ Vp (by kernel_rfl) (by kernel_rfl) (by kernel_rfl) ?_)|(refine Aar rfl 105 _ _ rfl Vo rfl rfl (by kernel_rfl) (by kernel_rfl) (by kernel_rfl) ?_))
 go_ret
 refine Ret.mk rfl ?_
 rw[Ag6]
 exact(Bh.refl _).alloc _
theorem Ag7 (n:Int) (w:World) (h0: ¬(0≤n∧n≤63)):
  Calls Try.prog 101 #[.int .i64 n] w (Ret w (.int .i64 0)):=by
 by_cases h:n<0
 ·go_enter Try.func101,Try.ntmps101
  go_wp2_with fail
  go_ret
  exact Ret.mk rfl (Bh.refl _)
 ·have h2:63<n:=by omega
  go_enter Try.func101,Try.ntmps101
  go_wp2_with fail
  go_ret
  exact Ret.mk rfl (Bh.refl _)
def Aas:List (Bool×List Sh):=[(false,[.int .i64])]
def Aat (r:YI):List RV×List RV:=([rv (false,[.int .i64]) r],[])
def Qr:Ay:=Aw Aas (fun d=>(Qn d.1).val) Aat
theorem Xp:Fn Try.prog 101 .plain Qr:=by
 refine⟨?_,Try.f101,Try.func101,by kernel_rfl,by kernel_rfl⟩
 intro rs res vals w G hv hG hr
 obtain⟨d,x,rfl,h1,h2⟩:=Abe hv
 obtain⟨⟨n,_⟩,_⟩:=d
 cases h1
 subst h2
 match vals,hr with
 |[v],hr=>
  have e:v= .int .i64 n:=hr.1.1.1
  subst e
  refine(?_:Calls Try.prog 101 #[.int .i64 n] w (Ret w (.int .i64 (J1 n)))).mono fun e w' h=>Ag8 (Ag9 n) h
  unfold J1
  by_cases h:0≤n∧n≤63
  ·rw[if_pos h];exact Ag5 n w h.1 h.2
  ·rw[if_neg h];exact Ag7 n w h

def Zr:Ay:=Aw [g_3,g_3] (fun d=>(Zl d.1 d.2.1).val) fun r=>([rv g_3 r],[])
theorem Afm:Fn Try.prog 102 .plain Zr:=mkF [] trivial Try.func102 0
def Rj:Ay:=Aw [g_4,g_0] (fun d=>(Iq d.1 d.2.1).val) fun r=>([rv g_4 r],[])
def Gi:Fns:=[(97,.plain,Ld),(99,.plain,Rh),(100,.plain,Xo),(101,.plain,Qr),(102,.plain,Zr)]
theorem Lf:CfgOk Try.prog (Cj Gi):=Er Ju Hg (show Hr Try.prog Gi from⟨Qq,Aao,Abd,Xp,Afm,trivial⟩)
def L9:Sk:=⟨[(0,.v false [(.sl 3 [.int .i64],.ro)]),(5,.v false [(.sl 3 [.int .i64],(.own 17000000))]),(133,.v false [(.sl 3 [.int .i64],(.own 17000001))]),(134,.v false [(.int .i64,.nil)]),(135,.v false [(.int .i64,.nil)])],[],[17000000,17000001]⟩
def Ma:List (Ex×Sk):=[((.exit 2),⟨[(5,.v false [(.sl 3 [.int .i64],(.own 17000000))])],[],[17000000]⟩)]
def Ny:Sk:=⟨[(0,.v false [(.sl 3 [.int .i64],.ro)]),(5,.v false [(.sl 3 [.int .i64],(.own 8000000))]),(6,.v false [(.sl 3 [.int .i64],(.own 8000001))]),(7,.v false [(.int .i64,.nil)]),(8,.v false [(.int .i64,.nil)]),(9,.v false [(.int .i64,.nil)]),(10,.v false [(.int .i64,.nil)]),(11,.v false [(.int .i64,.nil)]),(12,.v false [(.int .i64,.nil)]),(13,.v false [(.int .i64,.nil)]),(14,.v false [(.int .i64,.nil)]),(15,.v false [(.int .i64,.nil)])],[],[8000000,8000001]⟩
def Nz:List (Ex×Sk):=[((.exit 0),⟨[(0,.v false [(.sl 3 [.int .i64],.ro)]),(5,.v false [(.sl 3 [.int .i64],(.own 8000000))]),(7,.v false [(.int .i64,.nil)]),(8,.v false [(.int .i64,.nil)]),(9,.v false [(.int .i64,.nil)]),(10,.v false [(.int .i64,.nil)]),(11,.v false [(.int .i64,.nil)]),(12,.v false [(.int .i64,.nil)]),(13,.v false [(.int .i64,.nil)]),(14,.v false [(.int .i64,.nil)])],[],[8000000]⟩)]
def Gj:Eh:=fun i st=>cond (Nat.beq i 7) (lam Ny 8000000 Nz Db st) <| cond (Nat.beq i 16) (lam L9 17000000 Ma Cu st) <| .fail
theorem Vq (cx:Cx) (hp:cx.pin.length≤0):Ck Try.prog cx Try.f98.ntmps Gj (Aq Try.f98 0):=C5 Lf hp (B8 (by kernel_rfl:A4 (Aq Try.f98 0)=[]) trivial) (by kernel_rfl) (fun d=>(by kernel_rfl:bod (Cj Gi) 0 Try.f98.ntmps Gj (Aq Try.f98 0) Ny 8000000 Nz d=Db d))
theorem Ui (cx:Cx) (hp:cx.pin.length≤0):Ck Try.prog cx Try.f98.ntmps Gj (Aq Try.f98 1):=C5 Lf hp (B8 (by kernel_rfl:A4 (Aq Try.f98 1)=[]) trivial) (by kernel_rfl) (fun d=>(by kernel_rfl:bod (Cj Gi) 0 Try.f98.ntmps Gj (Aq Try.f98 1) L9 17000000 Ma d=Cu d))
theorem Aau:Fn Try.prog 98 .plain Rj:=Km Lf Try.func98 (by kernel_rfl) (by kernel_rfl) (fun cx b hp hb=>B8 (by kernel_rfl:A4 (Try.f98.body.getD .skip)=[Aq Try.f98 0,Aq Try.f98 1]) ⟨Vq cx hp,Ui cx hp,trivial⟩ b hb) (fun d=>(by kernel_rfl:Et (Cj Gi) 0 Gj Try.f98 .plain (mkA [g_4,g_0] d)=(Iq d.1 d.2.1).run fun r=>some ([rv g_4 r],[])))
def Ix:Ay:=Aw [g_4,g_0] (fun d=>(Ir d.1 d.2.1).val) fun r=>([rv g_4 r.1,rv g_0 r.2],[])
theorem Lg:Fn Try.prog 92 .view Ix:=C6 [(98,.plain,Rj)] ⟨Aau,trivial⟩ ⟨[(0,.v false [(.sl 3 [.int .i64],.rd)]),(1,.v false [(.sl 5 [.int .u8],.ro)])],[],[]⟩ 2000000 [((.exit 0),⟨[(0,.v false [(.sl 3 [.int .i64],.rd)]),(1,.v false [(.sl 5 [.int .u8],.ro)])],[],[]⟩)] 1 Cg Try.func92 0
def Tj:Ay:=Aw [Aa6,g_0] (fun d=>(M0 d.1 d.2.1).val) fun r=>([rv Aa6 r],[])
theorem Abf:Fn Try.prog 85 .plain Tj:=mkF [(91,.plain,Pn),(25,.plain,Ge),(22,.plain,Fm),(92,.view,Ix)] ⟨Ti,G5,Fy,Lg,trivial⟩ Try.func85 0
def Po:Ay:=Aw [g_0,g_3,g_3] (fun d=>(Aa5 d.1 d.2.1 d.2.2.1).val) fun r=>([rv g_0 r],[])
theorem Rk:Fn Try.prog 23 .plain Po:=C6 [] trivial ⟨[(1,.v false [(.int .i64,.nil)]),(7,.v false [(.sl 5 [.int .u8],(.own 6000000))]),(8,.v false [(.int .i64,.nil)])],[],[6000000]⟩ 6000000 [((.exit 0),⟨[(7,.v false [(.sl 5 [.int .u8],(.own 6000000))])],[],[6000000]⟩)] 5 Vd Try.func23 0
def Aej:Ay:=Aw [g_3] (fun d=>(W4 d.1).val) fun r=>([rv g_0 r],[])
theorem Aim:Fn Try.prog 93 .plain Aej:=C6 [(21,.plain,Ei),(23,.plain,Po)] ⟨Es,Rk,trivial⟩ ⟨[(0,.v false [(.int .i64,.nil)]),(3,.v false [(.sl 5 [.int .u8],(.own 5000000))])],[],[5000000]⟩ 5000000 [((.exit 0),⟨[(0,.v false [(.int .i64,.nil)]),(3,.v false [(.sl 5 [.int .u8],(.own 5000000))])],[],[5000000]⟩)] 4 F8 Try.func93 0
def Qs:Ay:=Aw [g_4] (fun d=>(Kc d.1).val) fun r=>([rv g_0 r],[])
theorem Xq:Fn Try.prog 94 .plain Qs:=C6 [(23,.plain,Po)] ⟨Rk,trivial⟩ ⟨[(3,.v false [(.sl 5 [.int .u8],(.own 4000000))]),(7,.v false [(.sl 3 [.int .i64],.ro)]),(8,.v false [(.int .i64,.nil)]),(9,.v false [(.int .i64,.nil)])],[],[4000000]⟩ 4000000 [((.exit 0),⟨[(3,.v false [(.sl 5 [.int .u8],(.own 4000000))])],[],[4000000]⟩)] 3 Dm Try.func94 0
def Tk:Ay:=Aw [Aa6] (fun d=>(M5 d.1).val) fun r=>([rv g_0 r],[])
theorem Abg:Fn Try.prog 84 .plain Tk:=mkF [(91,.plain,Pn),(93,.plain,Aej),(22,.plain,Fm),(92,.view,Ix),(94,.plain,Qs)] ⟨Ti,Aim,Fy,Lg,Xq,trivial⟩ Try.func84 0
def Xr:Ay:=Aw [g_0] (fun d=>(W6 d.1).val) fun r=>([rv g_0 r],[])
theorem Abh:Fn Try.prog 76 .plain Xr:=mkF [(86,.plain,Th),(85,.plain,Tj),(84,.plain,Tk)] ⟨Abb,Abf,Abg,trivial⟩ Try.func76 0
def Rl:Ay:=Aw [g_0] (fun d=>(K2 d.1).val) fun r=>([rv g_0 r],[])
theorem Aav:Fn Try.prog 75 .plain Rl:=C6 [(25,.plain,Ge),(76,.plain,Xr)] ⟨G5,Abh,trivial⟩ ⟨[(3,.v false [(.sl 5 [.int .u8],(.own 7000000))])],[],[7000000]⟩ 7000000 [((.exit 0),⟨[(3,.v false [(.sl 5 [.int .u8],(.own 7000000))])],[],[7000000]⟩)] 6 Cp Try.func75 0
def Vr:Ay:=Aw [g_0,Amb] (fun d=>(O6 d.1 d.2.1).val) fun r=>([rv g_0 r],[])
theorem Adq:Fn Try.prog 77 .plain Vr:=C6 [] trivial ⟨[(1,.v false [(.int .u8,.nil)]),(5,.v false [(.sl 5 [.int .u8],(.own 4000000))]),(9,.v false [(.sl 5 [.int .u8],.ro)]),(10,.v false [(.int .i64,.nil)]),(11,.v false [(.int .i64,.nil)])],[],[4000000]⟩ 4000000 [((.exit 0),⟨[(5,.v false [(.sl 5 [.int .u8],(.own 4000000))])],[],[4000000]⟩)] 3 Ew Try.func77 0
def Lh:Ay:=Aw [g_0,g_0] (fun d=>(T9 d.1 d.2.1).val) fun r=>([rv g_0 r],[])
theorem Mb:Fn Try.prog 58 .plain Lh:=mkF [(75,.plain,Rl),(77,.plain,Vr),(22,.plain,Fm),(76,.plain,Xr)] ⟨Aav,Adq,Fy,Abh,trivial⟩ Try.func58 0
def Aek:Ay:=Aw [g_0,g_0] (fun d=>(W7 d.1 d.2.1).val) fun r=>([rv g_0 r],[])
theorem Ain:Fn Try.prog 31 .plain Aek:=mkF [(58,.plain,Lh),(25,.plain,Ge)] ⟨Mb,G5,trivial⟩ Try.func31 0
def Vs:Ay:=Aw [g_0,g_0,g_3] (fun d=>(O7 d.1 d.2.1 d.2.2.1).val) fun r=>([rv g_0 r.1,rv g_1 r.2],[])
theorem Adr:Fn Try.prog 52 .plain Vs:=C6 [(21,.plain,Ei),(22,.plain,Fm),(58,.plain,Lh),(25,.plain,Ge)] ⟨Es,Fy,Mb,G5,trivial⟩ ⟨[(0,.v false [(.sl 5 [.int .u8],.ro)]),(1,.v false [(.sl 5 [.int .u8],.ro)]),(2,.v false [(.int .i64,.nil)]),(8,.v false [(.sl 5 [.int .u8],(.own 7000000))]),(9,.v false [(.sl 5 [.int .u8],(.own 7000001))]),(10,.v false [(.int .i64,.nil)])],[],[7000000,7000001]⟩ 7000000 [((.exit 0),⟨[(2,.v false [(.int .i64,.nil)]),(8,.v false [(.sl 5 [.int .u8],(.own 7000000))])],[],[7000000]⟩)] 6 Ey Try.func52 0
def Pp:Ay:=Aw [g_0,Ak4] (fun d=>(O9 d.1 d.2.1).val) fun r=>([rv g_0 r],[])
theorem Tl:Fn Try.prog 16 .plain Pp:=mkF [(52,.plain,Vs)] ⟨Adr,trivial⟩ Try.func16 0
def Tm:Ay:=Aw [g_0,g_0,g_3] (fun d=>(M7 d.1 d.2.1 d.2.2.1).val) fun r=>([rv g_0 r],[])
theorem Abi:Fn Try.prog 74 .plain Tm:=mkF [(21,.plain,Ei),(22,.plain,Fm),(23,.plain,Po),(58,.plain,Lh)] ⟨Es,Fy,Rk,Mb,trivial⟩ Try.func74 0
def Vt:Ay:=Aw [g_0,g_0,g_3] (fun d=>(Pa d.1 d.2.1 d.2.2.1).val) fun r=>([rv g_0 r],[])
theorem Ads:Fn Try.prog 57 .plain Vt:=C6 [(21,.plain,Ei),(74,.plain,Tm),(25,.plain,Ge)] ⟨Es,Abi,G5,trivial⟩ ⟨[(0,.v false [(.sl 5 [.int .u8],.ro)]),(1,.v false [(.sl 5 [.int .u8],.ro)]),(2,.v false [(.int .i64,.nil)]),(7,.v false [(.sl 5 [.int .u8],(.own 6000000))]),(8,.v false [(.int .i64,.nil)])],[],[6000000]⟩ 6000000 [((.exit 0),⟨[(2,.v false [(.int .i64,.nil)]),(7,.v false [(.sl 5 [.int .u8],(.own 6000000))])],[],[6000000]⟩)] 5 Ez Try.func57 0
def Ael:Ay:=Aw [g_0,g_0,g_0] (fun d=>(W9 d.1 d.2.1 d.2.2.1).val) fun r=>([rv g_0 r],[])
theorem Aio:Fn Try.prog 29 .plain Ael:=C6 [(57,.plain,Vt)] ⟨Ads,trivial⟩ ⟨[(2,.v false [(.sl 5 [.int .u8],.ro)]),(7,.v false [(.sl 5 [.int .u8],(.own 6000000))]),(28,.v false [(.sl 5 [.int .u8],(.own 6000001))]),(29,.v false [(.int .i64,.nil)]),(30,.v false [(.int .i64,.nil)])],[],[6000000,6000001]⟩ 6000000 [((.exit 0),⟨[(7,.v false [(.sl 5 [.int .u8],(.own 6000000))])],[],[6000000]⟩)] 5 H6 Try.func29 0
def Vu:Ay:=Aw [g_5,Ra,Xl,Ra] (fun d=>(Bp d.1 d.2.1 d.2.2.1 d.2.2.2.1).val) fun r=>([rv g_0 r.1,rv g_1 r.2],[])
theorem Adt:Fn Try.prog 40 .view Vu:=mkF [(63,.plain,Xn),(22,.plain,Fm),(64,.plain,Zp),(58,.plain,Lh),(31,.plain,Aek),(16,.plain,Pp),(29,.plain,Ael)] ⟨Aba,Fy,Afk,Mb,Ain,Tl,Aio,trivial⟩ Try.func40 0
def Abj:Ay:=Aw [g_6,Xl,Ra] (fun d=>(Jg d.1 d.2.1 d.2.2.1).val) fun r=>([rv g_0 r.1,rv g_1 r.2],[])
theorem Aha:Fn Try.prog 10 .plain Abj:=C6 [(38,.plain,Rg),(39,.plain,Vl),(40,.view,Vu),(25,.plain,Ge)] ⟨Aan,Ado,Adt,G5,trivial⟩ ⟨[(1,.v false [(.sl 72 h_4,.ro)]),(2,.v false [(.sl 22 [.sl 5 [.int .u8]],.ro)]),(8,.v false [(.sl 22 [.sl 5 [.int .u8]],(.row 6000000))]),(18,.v false [(.sl 42 h_3,.ro)]),(19,.v false [(.int .i64,.nil)]),(20,.v false [(.int .i64,.nil)])],[],[6000000]⟩ 6000000 [(.ret,⟨[(6,.v false [(.sl 5 [.int .u8],(.own 6000000))]),(7,.v false [(.bool,.nil)])],[],[6000000]⟩),((.exit 0),⟨[(8,.v false [(.sl 22 [.sl 5 [.int .u8]],(.row 6000000))])],[],[6000000]⟩)] 5 A8 Try.func10 0
def Vv:Ay:=Aw [g_5] (fun d=>(Pc d.1).val) fun r=>([rv g_1 r],[])
theorem Adu:Fn Try.prog 47 .plain Vv:=mkF [(59,.plain,Fl)] ⟨Fc,trivial⟩ Try.func47 0
def Aem:Ay:=Aw [g_0,g_3,g_3] (fun d=>(Xb d.1 d.2.1 d.2.2.1).val) fun r=>([rv g_0 r.1,rv g_1 r.2],[])
theorem Aip:Fn Try.prog 49 .plain Aem:=mkF [] trivial Try.func49 0
def Aen:Ay:=Aw [g_3] (fun d=>(Xd d.1).val) fun r=>([rv g_0 r],[])
theorem Aiq:Fn Try.prog 80 .plain Aen:=C6 [(60,.plain,Lb)] ⟨L6,trivial⟩ ⟨[(0,.v false [(.int .i64,.nil)]),(3,.v false [(.sl 5 [.int .u8],(.own 5000000))])],[],[5000000]⟩ 5000000 [((.exit 0),⟨[(0,.v false [(.int .i64,.nil)]),(3,.v false [(.sl 5 [.int .u8],(.own 5000000))])],[],[5000000]⟩)] 4 Q6 Try.func80 0
def Zs:Ay:=Aw [] (fun d=>(Zm).val) fun r=>([rv g_4 r],[])
theorem Afn:Fn Try.prog 81 .plain Zs:=mkF [] trivial Try.func81 0
def Tn:Ay:=Aw [g_4] (fun d=>(M9 d.1).val) fun r=>([rv g_1 r],[])
theorem Abk:Fn Try.prog 87 .plain Tn:=C6 [(59,.plain,Fl)] ⟨Fc,trivial⟩ ⟨[(0,.v false [(.sl 3 [.int .i64],.ro)]),(3,.v false [(.int .i64,.nil)])],[],[]⟩ 3000000 [(.ret,⟨[(2,.v false [(.bool,.nil)])],[],[]⟩),((.exit 0),⟨[(0,.v false [(.sl 3 [.int .i64],.ro)])],[],[]⟩)] 2 Ft Try.func87 0
def Aeo:Ay:=Aw [] (fun d=>(Aeg).val) fun r=>([rv g_4 r],[])
theorem Air:Fn Try.prog 88 .plain Aeo:=mkF [] trivial Try.func88 0
def Abl:Ay:=Aw [g_0,g_3,g_3] (fun d=>(Ua d.1 d.2.1 d.2.2.1).val) fun r=>([rv g_3 r.1,rv g_3 r.2.1,rv g_1 r.2.2],[])
theorem Ahb:Fn Try.prog 96 .plain Abl:=C6 [] trivial ⟨[(0,.v false [(.sl 5 [.int .u8],.ro)]),(1,.v false [(.int .i64,.nil)]),(2,.v false [(.int .i64,.nil)]),(9,.v false [(.int .i64,.nil)]),(10,.v false [(.int .i64,.nil)])],[],[]⟩ 6000000 [((.exit 0),⟨[(1,.v false [(.int .i64,.nil)]),(2,.v false [(.int .i64,.nil)]),(9,.v false [(.int .i64,.nil)])],[],[]⟩)] 5 Gz Try.func96 0
def Xs:Ay:=Aw [g_3,g_3] (fun d=>(Xf d.1 d.2.1).val) fun r=>([rv g_3 r],[])
theorem Abm:Fn Try.prog 90 .plain Xs:=mkF [] trivial Try.func90 0
def Rm:Ay:=Aw [g_0] (fun d=>(Is d.1).val) fun r=>([rv g_4 r],[])
def Gk:Fns:=[(96,.plain,Abl),(90,.plain,Xs)]
theorem Li:CfgOk Try.prog (Cj Gk):=Er Ju Hg (show Hr Try.prog Gk from⟨Ahb,Abm,trivial⟩)
def Mc:Sk:=⟨[(3,.v false [(.sl 3 [.int .i64],(.own 11000000))]),(8,.v false [(.int .i64,.nil)])],[],[11000000]⟩
def Md:List (Ex×Sk):=[((.exit 2),⟨[(3,.v false [(.sl 3 [.int .i64],(.own 11000000))])],[],[11000000]⟩)]
def N0:Sk:=⟨[(0,.v false [(.sl 5 [.int .u8],.ro)]),(3,.v false [(.sl 3 [.int .i64],(.own 6000000))]),(4,.v false [(.int .i64,.nil)])],[],[6000000]⟩
def N3:List (Ex×Sk):=[((.exit 0),⟨[(3,.v false [(.sl 3 [.int .i64],(.own 6000000))])],[],[6000000]⟩)]
def Gl:Eh:=fun i st=>cond (Nat.beq i 5) (lam N0 6000000 N3 D4 st) <| cond (Nat.beq i 10) (lam Mc 11000000 Md Dn st) <| .fail
theorem Vw (cx:Cx) (hp:cx.pin.length≤0):Ck Try.prog cx Try.f89.ntmps Gl (Aq Try.f89 0):=C5 Li hp (B8 (by kernel_rfl:A4 (Aq Try.f89 0)=[]) trivial) (by kernel_rfl) (fun d=>(by kernel_rfl:bod (Cj Gk) 0 Try.f89.ntmps Gl (Aq Try.f89 0) N0 6000000 N3 d=D4 d))
theorem Uj (cx:Cx) (hp:cx.pin.length≤0):Ck Try.prog cx Try.f89.ntmps Gl (Aq Try.f89 1):=C5 Li hp (B8 (by kernel_rfl:A4 (Aq Try.f89 1)=[]) trivial) (by kernel_rfl) (fun d=>(by kernel_rfl:bod (Cj Gk) 0 Try.f89.ntmps Gl (Aq Try.f89 1) Mc 11000000 Md d=Dn d))
theorem Aaw:Fn Try.prog 89 .plain Rm:=Km Li Try.func89 (by kernel_rfl) (by kernel_rfl) (fun cx b hp hb=>B8 (by kernel_rfl:A4 (Try.f89.body.getD .skip)=[Aq Try.f89 0,Aq Try.f89 1]) ⟨Vw cx hp,Uj cx hp,trivial⟩ b hb) (fun d=>(by kernel_rfl:Et (Cj Gk) 0 Gl Try.f89 .plain (mkA [g_0] d)=(Is d.1).run fun r=>some ([rv g_4 r],[])))
def Rn:Ay:=Aw [g_4,g_0] (fun d=>(It d.1 d.2.1).val) fun r=>([rv g_4 r],[])
def Gm:Fns:=[(87,.plain,Tn),(88,.plain,Aeo),(89,.plain,Rm),(90,.plain,Xs)]
theorem Lj:CfgOk Try.prog (Cj Gm):=Er Ju Hg (show Hr Try.prog Gm from⟨Abk,Air,Aaw,Abm,trivial⟩)
def Me:Sk:=⟨[(0,.v false [(.sl 3 [.int .i64],.ro)]),(5,.v false [(.sl 3 [.int .i64],(.own 23000000))]),(19,.v false [(.sl 3 [.int .i64],(.own 23000001))]),(20,.v false [(.int .i64,.nil)])],[],[23000000,23000001]⟩
def Mf:List (Ex×Sk):=[((.exit 2),⟨[(5,.v false [(.sl 3 [.int .i64],(.own 23000000))])],[],[23000000]⟩)]
def N4:Sk:=⟨[(0,.v false [(.sl 3 [.int .i64],.ro)]),(5,.v false [(.sl 3 [.int .i64],(.own 9000000))]),(6,.v false [(.sl 3 [.int .i64],(.own 9000001))]),(7,.v false [(.sl 3 [.int .i64],(.own 9000002))]),(8,.v false [(.int .i64,.nil)]),(9,.v false [(.int .i64,.nil)]),(10,.v false [(.int .i64,.nil)]),(11,.v false [(.int .i64,.nil)]),(12,.v false [(.int .i64,.nil)]),(13,.v false [(.int .i64,.nil)]),(14,.v false [(.int .i64,.nil)]),(15,.v false [(.int .i64,.nil)]),(16,.v false [(.int .i64,.nil)])],[],[9000000,9000001,9000002]⟩
def N5:List (Ex×Sk):=[((.exit 0),⟨[(0,.v false [(.sl 3 [.int .i64],.ro)]),(5,.v false [(.sl 3 [.int .i64],(.own 9000000))]),(8,.v false [(.int .i64,.nil)]),(9,.v false [(.int .i64,.nil)]),(10,.v false [(.int .i64,.nil)]),(11,.v false [(.int .i64,.nil)]),(12,.v false [(.int .i64,.nil)]),(13,.v false [(.int .i64,.nil)]),(14,.v false [(.int .i64,.nil)]),(15,.v false [(.int .i64,.nil)])],[],[9000000]⟩)]
def Gn:Eh:=fun i st=>cond (Nat.beq i 8) (lam N4 9000000 N5 Dc st) <| cond (Nat.beq i 22) (lam Me 23000000 Mf Cv st) <| .fail
theorem Vx (cx:Cx) (hp:cx.pin.length≤0):Ck Try.prog cx Try.f82.ntmps Gn (Aq Try.f82 0):=C5 Lj hp (B8 (by kernel_rfl:A4 (Aq Try.f82 0)=[]) trivial) (by kernel_rfl) (fun d=>(by kernel_rfl:bod (Cj Gm) 0 Try.f82.ntmps Gn (Aq Try.f82 0) N4 9000000 N5 d=Dc d))
theorem Uk (cx:Cx) (hp:cx.pin.length≤0):Ck Try.prog cx Try.f82.ntmps Gn (Aq Try.f82 1):=C5 Lj hp (B8 (by kernel_rfl:A4 (Aq Try.f82 1)=[]) trivial) (by kernel_rfl) (fun d=>(by kernel_rfl:bod (Cj Gm) 0 Try.f82.ntmps Gn (Aq Try.f82 1) Me 23000000 Mf d=Cv d))
theorem Aax:Fn Try.prog 82 .plain Rn:=Km Lj Try.func82 (by kernel_rfl) (by kernel_rfl) (fun cx b hp hb=>B8 (by kernel_rfl:A4 (Try.f82.body.getD .skip)=[Aq Try.f82 0,Aq Try.f82 1]) ⟨Vx cx hp,Uk cx hp,trivial⟩ b hb) (fun d=>(by kernel_rfl:Et (Cj Gm) 0 Gn Try.f82 .plain (mkA [g_4,g_0] d)=(It d.1 d.2.1).run fun r=>some ([rv g_4 r],[])))
def Zt:Ay:=Aw [g_4] (fun d=>(Q7 d.1).val) fun r=>([rv g_0 r],[])
theorem Afo:Fn Try.prog 83 .plain Zt:=C6 [(60,.plain,Lb)] ⟨L6,trivial⟩ ⟨[(0,.v false [(.sl 3 [.int .i64],.ro)]),(3,.v false [(.sl 5 [.int .u8],(.own 4000000))]),(4,.v false [(.int .i64,.nil)])],[],[4000000]⟩ 4000000 [((.exit 0),⟨[(3,.v false [(.sl 5 [.int .u8],(.own 4000000))])],[],[4000000]⟩)] 3 Fw Try.func83 0
def Xt:Ay:=Aw [g_0] (fun d=>(Xg d.1).val) fun r=>([rv g_0 r],[])
theorem Abn:Fn Try.prog 71 .plain Xt:=C6 [(80,.plain,Aen),(81,.plain,Zs),(82,.plain,Rn),(83,.plain,Zt)] ⟨Aiq,Afn,Aax,Afo,trivial⟩ ⟨[(3,.v false [(.sl 5 [.int .u8],(.own 7000000))]),(4,.v false [(.sl 3 [.int .i64],(.own 7000001))]),(5,.v false [(.int .i64,.nil)])],[],[7000000,7000001]⟩ 7000000 [((.exit 0),⟨[(4,.v false [(.sl 3 [.int .i64],(.own 7000000))])],[],[7000000]⟩)] 6 H7 Try.func71 0
def Ro:Ay:=Aw [g_0] (fun d=>(K5 d.1).val) fun r=>([rv g_0 r],[])
theorem Aay:Fn Try.prog 70 .plain Ro:=C6 [(71,.plain,Xt)] ⟨Abn,trivial⟩ ⟨[(3,.v false [(.sl 5 [.int .u8],(.own 7000000))])],[],[7000000]⟩ 7000000 [((.exit 0),⟨[(3,.v false [(.sl 5 [.int .u8],(.own 7000000))])],[],[7000000]⟩)] 6 G3 Try.func70 0
def Lk:Ay:=Aw [g_0,g_0] (fun d=>(Uc d.1 d.2.1).val) fun r=>([rv g_0 r],[])
theorem Mg:Fn Try.prog 50 .plain Lk:=C6 [(70,.plain,Ro),(71,.plain,Xt)] ⟨Aay,Abn,trivial⟩ ⟨[(1,.v false [(.sl 5 [.int .u8],.ro)]),(5,.v false [(.sl 5 [.int .u8],(.own 8000000))]),(6,.v false [(.sl 5 [.int .u8],(.own 8000001))]),(7,.v false [(.sl 5 [.int .u8],(.own 8000002))]),(8,.v false [(.int .i64,.nil)])],[],[8000000,8000001,8000002]⟩ 8000000 [((.exit 0),⟨[(1,.v false [(.sl 5 [.int .u8],.ro)]),(6,.v false [(.sl 5 [.int .u8],(.own 8000000))]),(7,.v false [(.sl 5 [.int .u8],(.own 8000001))])],[],[8000000,8000001]⟩)] 7 G4 Try.func50 0
def Aep:Ay:=Aw [g_0,g_0] (fun d=>(Xh d.1 d.2.1).val) fun r=>([rv g_0 r],[])
theorem Ais:Fn Try.prog 36 .plain Aep:=mkF [(50,.plain,Lk)] ⟨Mg,trivial⟩ Try.func36 0
def Vy:Ay:=Aw [g_0,g_0,g_3] (fun d=>(Pe d.1 d.2.1 d.2.2.1).val) fun r=>([rv g_0 r.1,rv g_1 r.2],[])
theorem Adv:Fn Try.prog 72 .plain Vy:=C6 [(59,.plain,Fl),(50,.plain,Lk)] ⟨Fc,Mg,trivial⟩ ⟨[(0,.v false [(.sl 5 [.int .u8],.ro)]),(1,.v false [(.sl 5 [.int .u8],.ro)]),(2,.v false [(.int .i64,.nil)]),(8,.v false [(.sl 5 [.int .u8],(.own 7000000))]),(9,.v false [(.sl 5 [.int .u8],(.own 7000001))]),(10,.v false [(.int .i64,.nil)])],[],[7000000,7000001]⟩ 7000000 [((.exit 0),⟨[(2,.v false [(.int .i64,.nil)]),(8,.v false [(.sl 5 [.int .u8],(.own 7000000))])],[],[7000000]⟩)] 6 E0 Try.func72 0
def Vz:Ay:=Aw [g_0,Ak4] (fun d=>(Pg d.1 d.2.1).val) fun r=>([rv g_0 r],[])
theorem Adw:Fn Try.prog 51 .plain Vz:=mkF [(72,.plain,Vy)] ⟨Adv,trivial⟩ Try.func51 0
def To:Ay:=Aw [g_0,g_0,g_3] (fun d=>(Nb d.1 d.2.1 d.2.2.1).val) fun r=>([rv g_0 r],[])
theorem Abo:Fn Try.prog 78 .plain To:=mkF [(59,.plain,Fl),(60,.plain,Lb),(50,.plain,Lk)] ⟨Fc,L6,Mg,trivial⟩ Try.func78 0
def V0:Ay:=Aw [g_0,g_0,g_3] (fun d=>(Ph d.1 d.2.1 d.2.2.1).val) fun r=>([rv g_0 r],[])
theorem Adx:Fn Try.prog 61 .plain V0:=C6 [(59,.plain,Fl),(78,.plain,To)] ⟨Fc,Abo,trivial⟩ ⟨[(0,.v false [(.sl 5 [.int .u8],.ro)]),(1,.v false [(.sl 5 [.int .u8],.ro)]),(2,.v false [(.int .i64,.nil)]),(7,.v false [(.sl 5 [.int .u8],(.own 6000000))]),(8,.v false [(.int .i64,.nil)])],[],[6000000]⟩ 6000000 [((.exit 0),⟨[(2,.v false [(.int .i64,.nil)]),(7,.v false [(.sl 5 [.int .u8],(.own 6000000))])],[],[6000000]⟩)] 5 E4 Try.func61 0
def Aeq:Ay:=Aw [g_0,g_0,g_0] (fun d=>(Xj d.1 d.2.1 d.2.2.1).val) fun r=>([rv g_0 r],[])
theorem Ait:Fn Try.prog 35 .plain Aeq:=C6 [(61,.plain,V0)] ⟨Adx,trivial⟩ ⟨[(2,.v false [(.sl 5 [.int .u8],.ro)]),(7,.v false [(.sl 5 [.int .u8],(.own 7000000))]),(8,.v false [(.sl 5 [.int .u8],(.own 7000001))]),(9,.v false [(.int .i64,.nil)])],[],[7000000,7000001]⟩ 7000000 [((.exit 0),⟨[(7,.v false [(.sl 5 [.int .u8],(.own 7000000))])],[],[7000000]⟩)] 6 H8 Try.func35 0
def Abp:Ay:=Aw [g_6,Xl,Ra] (fun d=>(Pj d.1 d.2.1 d.2.2.1).val) fun r=>([rv g_0 r.1,rv g_1 r.2],[])
def Ll:Fns:=[(47,.plain,Vv),(48,.plain,Nd),(49,.plain,Aem),(50,.plain,Lk),(36,.plain,Aep),(51,.plain,Vz),(35,.plain,Aeq)]
theorem Ul:CfgOk Try.prog (Cj Ll):=Er Ju Hg (show Hr Try.prog Ll from⟨Adu,Rc,Aip,Mg,Ais,Adw,Ait,trivial⟩)
def V2:Sk:=⟨[(0,.v false [(.sl 42 h_3,.ro)]),(1,.v false [(.sl 72 h_4,.ro)]),(2,.v false [(.sl 22 [.sl 5 [.int .u8]],.ro)]),(8,.v false [(.sl 22 [.sl 5 [.int .u8]],(.own 6000000))]),(9,.v false [(.int .i64,.nil)])],[],[6000000]⟩
def V3:List (Ex×Sk):=[(.ret,⟨[(6,.v false [(.sl 5 [.int .u8],(.own 6000000))]),(7,.v false [(.bool,.nil)])],[],[6000000]⟩),((.exit 0),⟨[(8,.v false [(.sl 22 [.sl 5 [.int .u8]],(.own 6000000))])],[],[6000000]⟩)]
def Tp:Sk:=⟨[(0,.v false [(.sl 42 h_3,.ro)]),(1,.v false [(.sl 72 h_4,.ro)]),(2,.v false [(.sl 22 [.sl 5 [.int .u8]],.ro)]),(8,.v false [(.sl 22 [.sl 5 [.int .u8]],(.own 35000000))]),(9,.v false [(.int .i64,.nil)]),(11,.v false [(.int .i64,.nil)]),(12,.v false [(.sl 5 [.int .u8],(.own 35000001))]),(15,.v false [(.int .i64,.nil)])],[],[35000000,35000001]⟩
def Tq:List (Ex×Sk):=[((.exit 3),⟨[(0,.v false [(.sl 42 h_3,.ro)]),(1,.v false [(.sl 72 h_4,.ro)]),(2,.v false [(.sl 22 [.sl 5 [.int .u8]],.ro)]),(8,.v false [(.sl 22 [.sl 5 [.int .u8]],(.own 35000000))]),(9,.v false [(.int .i64,.nil)]),(11,.v false [(.int .i64,.nil)]),(12,.v false [(.sl 5 [.int .u8],(.own 35000001))])],[],[35000000,35000001]⟩)]
def Lm:Eh:=fun i st=>cond (Nat.beq i 34) (lam Tp 35000000 Tq Ep st) <| cond (Nat.beq i 5) (lam V2 6000000 V3 Du st) <| .fail
theorem Abq (cx:Cx) (hp:cx.pin.length≤0):Ck Try.prog cx Try.f15.ntmps Lm (Aq Try.f15 1):=C5 Ul hp (B8 (by kernel_rfl:A4 (Aq Try.f15 1)=[]) trivial) (by kernel_rfl) (fun d=>(by kernel_rfl:bod (Cj Ll) 0 Try.f15.ntmps Lm (Aq Try.f15 1) Tp 35000000 Tq d=Ep d))
theorem Ady (cx:Cx) (hp:cx.pin.length≤0):Ck Try.prog cx Try.f15.ntmps Lm (Aq Try.f15 0):=C5 Ul hp (B8 (by kernel_rfl:A4 (Aq Try.f15 0)=[Aq Try.f15 1]) ⟨Abq cx hp,trivial⟩) (by kernel_rfl) (fun d=>(by kernel_rfl:bod (Cj Ll) 0 Try.f15.ntmps Lm (Aq Try.f15 0) V2 6000000 V3 d=Du d))
theorem Ahc:Fn Try.prog 15 .plain Abp:=Km Ul Try.func15 (by kernel_rfl) (by kernel_rfl) (fun cx b hp hb=>B8 (by kernel_rfl:A4 (Try.f15.body.getD .skip)=[Aq Try.f15 0]) ⟨Ady cx hp,trivial⟩ b hb) (fun d=>(by kernel_rfl:Et (Cj Ll) 0 Lm Try.f15 .plain (mkA [g_6,Xl,Ra] d)=(Pj d.1 d.2.1 d.2.2.1).run fun r=>some ([rv g_0 r.1,rv g_1 r.2],[])))
def Abr:Ay:=Aw [g_0,g_0] (fun d=>(Ue d.1 d.2.1).val) fun r=>([rv g_1 r],[])
theorem Ahd:Fn Try.prog 12 .plain Abr:=mkF [] trivial Try.func12 0
def Jw:List (Bool×List Sh):=[g_0]
def Tr (r:(Bool×Unit)):List RV×List RV:=([rv g_1 r],[])
def Adz:Ay:=Aw Jw (fun d=>(Hf d.1).val) Tr
theorem Abs:Fn Try.prog 4 .plain Adz:=mkF [(5,.plain,Aei),(14,.view,Rf),(10,.plain,Abj),(15,.plain,Abp),(12,.plain,Abr),(16,.plain,Pp)] ⟨Ail,Aam,Aha,Ahc,Ahd,Tl,trivial⟩ Try.func4 0
end
end Go.Proofs.Ytmhhajdeafijmaa

/-
  That the functions of the seat answer what the terms of text W say; nothing is assumed.
-/
import Derived.Test.YtmhhajdeafijmaaW
import Derived.Test.YtmhhajdeafijmaaProg
import Derived.KernelRfl
namespace Go.Proofs.Ytmhhajdeafijmaa
open Go.RowKit
set_option linter.unusedVariables false
set_option maxRecDepth 100000
set_option maxHeartbeats 4000000
noncomputable section
abbrev h_0:List Sh:=[.int .i64,.int .i64,.bool,.int .u8]
abbrev h_1:List Sh:=[.sl 5 [.int .u8],.int .i64,.int .i64]
abbrev h_2:List Sh:=[.sl 3 [.int .i64],.sl 5 [.int .u8],.int .i64]
abbrev h_3:List Sh:=[.int .i64,.int .i64,.int .i64,.sl 5 [.int .u8]]
abbrev h_4:List Sh:=[.int .i64,.int .i64,.int .i64,.int .i64,.sl 5 [.int .u8]]
abbrev h_5:List Sh:=[.int .i64,.int .i64,.sl 5 [.int .u8],.sl 5 [.int .u8],.int .i64,.sl 5 [.int .u8],.sl 5 [.int .u8],.int .i64,.int .i64,.sl 5 [.int .u8],.sl 5 [.int .u8]]
abbrev g_0:Bool×List Sh:=(false,[.sl 5 [.int .u8]])
abbrev g_1:Bool×List Sh:=(false,[.bool])
abbrev g_2:Bool×List Sh:=(true,h_1)
abbrev g_3:Bool×List Sh:=(false,[.int .i64])
abbrev g_4:Bool×List Sh:=(false,[.sl 3 [.int .i64]])
abbrev g_5:Bool×List Sh:=(true,h_5)
abbrev g_6:Bool×List Sh:=(false,[.sl 22 [.sl 5 [.int .u8]]])
abbrev g_7:Bool×List Sh:=(true,h_2)
abbrev g_8:Bool×List Sh:=(false,[.int .u8])
abbrev g_9:Bool×List Sh:=(false,[.sl 42 h_3])
abbrev Akt:Bool×List Sh:=(true,h_3)
abbrev Al0:Bool×List Sh:=(false,[.str])
abbrev Aku:Bool×List Sh:=(false,[.sl 72 h_4])
def tys:List (Nat×Ty):=[(3,⟨false,[.int .i64],[],false,[]⟩),
 (4,⟨false,[.bool],[],false,[]⟩),
 (5,⟨false,[.int .u8],[],false,[]⟩),
 (9,⟨false,[.str],[],false,[]⟩),
 (22,⟨false,[.sl 5 [.int .u8]],[],false,[]⟩),
 (26,⟨false,[.sl 42 h_3],[],false,[]⟩),
 (29,⟨true,h_5,[(0,1),(1,1),(2,1),(3,1),(4,1),(5,1),(6,1),(7,1),(8,1),(9,1),(10,1)],false,[]⟩),
 (32,⟨false,[.sl 22 [.sl 5 [.int .u8]]],[],false,[]⟩),
 (35,⟨false,[.sl 72 h_4],[],false,[]⟩),
 (42,⟨true,h_3,[(0,1),(1,1),(2,1),(3,1)],false,[]⟩),
 (48,⟨false,[.sl 3 [.int .i64]],[],false,[]⟩),
 (72,⟨true,h_4,[(0,2),(2,2),(4,1)],false,[]⟩),
 (77,⟨true,h_1,[(0,1),(1,1),(2,1)],false,[]⟩),
 (85,⟨false,[.int .u64],[],false,[]⟩),
 (93,⟨true,h_2,[(0,1),(1,1),(2,1)],false,[]⟩)]
theorem Jt:Afd Try.prog tys=true:=by kernel_rfl
theorem Lz:Try.prog.follows .mixedOrders=true:=by kernel_rfl
abbrev D4 (C:Fns):Cfg:=⟨Vf tys,Jk C,Ik C,3,4⟩
theorem mkF {f:FuncId} {fn:Func} {kd:Kind} {ps:List (Bool×List Sh)} {R:Type} {T:Hk ps→Tree R} {rvs:R→List RV×List RV} (C:Fns) (hc:Jl Try.prog C) (hf:Try.prog.funcs[f]? =some fn) (np:Nat) (hn:(fn.name== "runtime.NumGoroutine")=false:=by kernel_rfl) (hb:fn.body.isSome=true:=by kernel_rfl) (hl:A8 (fn.body.getD .skip)=[]:=by kernel_rfl)
  (he: ∀d,Ft (D4 C) np (fun _ _=>.fail) fn kd (mkA ps d)=(T d).run fun r=>some (rvs r):=by intro d;kernel_rfl):Fn Try.prog f kd (Ao ps (fun d=>(T d).val) rvs):=
 Ph (F0 Lz Jt hc) hf hn hb (fun cx b hp hbb=>by rw[hl]at hbb;cases hbb) he
abbrev lpq (r:Nat) (K:Sk) (z:Nat) (X:List (Ex×Sk)) (B:K.den→Option (K.den⊕K4 X)):Fb:=fun i st=>cond (Nat.beq i r) (lam K z X B st) .fail
theorem C4 {f:FuncId} {fn:Func} {kd:Kind} {ps:List (Bool×List Sh)} {R:Type} {T:Hk ps→Tree R} {rvs:R→List RV×List RV} (C:Fns) (hc:Jl Try.prog C) (K:Sk) (z:Nat) (X:List (Ex×Sk)) (r:Nat) (B:K.den→Option (K.den⊕K4 X)) (hf:Try.prog.funcs[f]? =some fn) (np:Nat) (hn:(fn.name== "runtime.NumGoroutine")=false:=by kernel_rfl) (hb:fn.body.isSome=true:=by kernel_rfl) (h1:A8 (fn.body.getD .skip)=[Az fn 0]:=by kernel_rfl) (h2:A8 (Az fn 0)=[]:=by kernel_rfl)
  (hq:lpq r K z X B (F2 (Az fn 0))=lam K z X B:=by kernel_rfl) (hl: ∀d,bod (D4 C) np fn.ntmps (lpq r K z X B) (Az fn 0) K z X d=B d:=by intro d;kernel_rfl)
  (he: ∀d,Ft (D4 C) np (lpq r K z X B) fn kd (mkA ps d)=(T d).run fun r=>some (rvs r):=by intro d;kernel_rfl):Fn Try.prog f kd (Ao ps (fun d=>(T d).val) rvs):=
 Ph (F0 Lz Jt hc) hf hn hb (fun cx b hp hbb=>Dl h1 ⟨Fp (F0 Lz Jt hc) hp (Dl h2 trivial) hq hl,trivial⟩ b hbb) he
def Aec:Ap:=Ao [g_0] (fun d=>(Ad8 d.1).val) fun r=>([rv g_1 r],[])
theorem Ail:Fn Try.prog 5 .plain Aec:=mkF [] trivial Try.func5 0
def Zj:Ap:=Ao [g_0] (fun d=>(Q0 d.1).val) fun r=>([rv g_2 r],[])
theorem Afe:Fn Try.prog 17 .ret Zj:=C4 [] trivial ⟨[(0,.v false [(.sl 5 [.int .u8],.ro)]),(3,.v false [(.int .i64,.nil)]),(4,.v false [(.int .i64,.nil)])],[],[]⟩ 4000000 [((.exit 0),⟨[(0,.v false [(.sl 5 [.int .u8],.ro)]),(3,.v false [(.int .i64,.nil)])],[],[]⟩)] 3 Jj Try.func17 0
def Pi:Ap:=Ao [g_2] (fun d=>(Ok d.1).val) fun r=>([rv g_3 r.1],[rv g_2 r.2])
theorem Tc:Fn Try.prog 53 (.box [3] true true) Pi:=mkF [] trivial Try.func53 1
def M6:Ap:=Ao [g_2,g_3] (fun d=>(Mm d.1 d.2.1).val) fun r=>([rv g_3 r.1],[rv g_2 r.2])
theorem Rd:Fn Try.prog 45 (.box [3] true true) M6:=mkF [(53,(.box [3] true true),Pi)] ⟨Tc,trivial⟩ Try.func45 1
def Re:Ap:=Ao [g_2,g_4] (fun d=>(Q2 d.1 d.2.1).val) fun r=>([rv g_3 r.1],[rv g_2 r.2])
theorem Vg:Fn Try.prog 19 (.box [3] true true) Re:=mkF [(45,(.box [3] true true),M6)] ⟨Rd,trivial⟩ Try.func19 1
def M7:Ap:=Ao [g_2,g_3] (fun d=>(Mn d.1 d.2.1).val) fun r=>([rv g_0 r.1],[rv g_2 r.2])
theorem Rf:Fn Try.prog 18 (.box [3] true true) M7:=C4 [(53,(.box [3] true true),Pi)] ⟨Tc,trivial⟩ ⟨[(0,.box 0 0),(1,.v false [(.int .i64,.nil)]),(5,.v false [(.sl 5 [.int .u8],(.own 4000000))]),(6,.v false [(.int .i64,.nil)])],[(0,[(.sl 5 [.int .u8],(.pin 0)),(.int .i64,.nil),(.int .i64,.nil)])],[4000000]⟩ 4000000 [((.exit 0),⟨[(0,.box 0 0),(5,.v false [(.sl 5 [.int .u8],(.own 4000000))])],[(0,[(.sl 5 [.int .u8],(.pin 0)),(.int .i64,.nil),(.int .i64,.nil)])],[4000000]⟩)] 3 Fi Try.func18 1
def Vh:Ap:=Ao [g_2] (fun d=>(Ol d.1).val) fun r=>([rv g_3 r.1,rv g_0 r.2.1],[rv g_2 r.2.2])
theorem Adf:Fn Try.prog 20 (.box [3] true true) Vh:=mkF [(45,(.box [3] true true),M6),(18,(.box [3] true true),M7),(19,(.box [3] true true),Re)] ⟨Rd,Rf,Vg,trivial⟩ Try.func20 1
def Qp:Ap:=Ao [g_0] (fun d=>(J1 d.1).val) fun r=>([rv g_0 r.1,rv g_3 r.2.1,rv g_3 r.2.2.1,rv g_0 r.2.2.2.1,rv g_3 r.2.2.2.2.1,rv g_3 r.2.2.2.2.2.1,rv g_3 r.2.2.2.2.2.2.1,rv g_0 r.2.2.2.2.2.2.2],[])
theorem Xb:Fn Try.prog 6 .view Qp:=mkF [(17,.ret,Zj),(19,(.box [3] true true),Re),(18,(.box [3] true true),M7),(20,(.box [3] true true),Vh)] ⟨Afe,Vg,Rf,Adf,trivial⟩ Try.func6 0
def E0:Ap:=Ao [g_0] (fun d=>(Q3 d.1).val) fun r=>([rv g_0 r],[])
theorem Fc:Fn Try.prog 25 .plain E0:=mkF [] trivial Try.func25 0
def Ke:Ap:=Ao [g_3] (fun d=>(On d.1).val) fun r=>([rv g_1 r],[])
theorem M8:Fn Try.prog 26 .plain Ke:=mkF [] trivial Try.func26 0
def Ch:Ap:=Ao [g_3,g_3,g_3] (fun d=>(Oo d.1 d.2.1 d.2.2.1).val) fun r=>([rv g_1 r],[])
theorem Ce:Fn Try.prog 21 .plain Ch:=mkF [] trivial Try.func21 0
def Kf:Ap:=Ao [g_3] (fun d=>(Oq d.1).val) fun r=>([rv g_1 r],[])
theorem M9:Fn Try.prog 27 .plain Kf:=mkF [(21,.plain,Ch)] ⟨Ce,trivial⟩ Try.func27 0
def Na:Ap:=Ao [g_0] (fun d=>(S8 d.1).val) fun r=>([rv g_1 r],[])
theorem Rg:Fn Try.prog 54 .plain Na:=mkF [] trivial Try.func54 0
def Vi:Ap:=Ao [g_3,g_3] (fun d=>(Ot d.1 d.2.1).val) fun r=>([rv g_1 r],[])
theorem Adg:Fn Try.prog 55 .plain Vi:=mkF [] trivial Try.func55 0
def Qq:Ap:=Ao [g_0,g_0] (fun d=>(Qm d.1 d.2.1).val) fun r=>([rv g_1 r],[])
theorem Xc:Fn Try.prog 73 .plain Qq:=mkF [] trivial Try.func73 0
def Qr:Ap:=Ao [g_5,g_5] (fun d=>(J3 d.1 d.2.1).val) fun r=>([rv g_1 r],[])
theorem Xd:Fn Try.prog 56 .plain Qr:=mkF [(73,.plain,Qq)] ⟨Xc,trivial⟩ Try.func56 0
def Jm:Ap:=Ao [g_5] (fun d=>(Mo d.1).val) fun r=>([rv g_1 r],[])
theorem K5:Fn Try.prog 28 .plain Jm:=mkF [(21,.plain,Ch),(54,.plain,Na),(27,.plain,Kf),(55,.plain,Vi),(56,.plain,Qr)] ⟨Ce,Rg,M9,Adg,Xd,trivial⟩ Try.func28 0
def Hl:Ap:=Ao [g_0,g_3,g_3] (fun d=>(Aa3 d.1 d.2.1 d.2.2.1).val) fun r=>([rv g_0 r],[])
theorem Hw:Fn Try.prog 23 .plain Hl:=C4 [] trivial ⟨[(1,.v false [(.int .i64,.nil)]),(7,.v false [(.sl 5 [.int .u8],(.own 6000000))]),(8,.v false [(.int .i64,.nil)])],[],[6000000]⟩ 6000000 [((.exit 0),⟨[(7,.v false [(.sl 5 [.int .u8],(.own 6000000))])],[],[6000000]⟩)] 5 Vc Try.func23 0
def Ct:Ap:=Ao [g_6] (fun d=>(Ov d.1).val) fun r=>([rv g_0 r],[])
theorem Cp:Fn Try.prog 22 .plain Ct:=C4 [] trivial ⟨[(3,.v false [(.sl 5 [.int .u8],(.own 4000000))]),(7,.v false [(.sl 22 [.sl 5 [.int .u8]],.ro)]),(8,.v false [(.int .i64,.nil)]),(9,.v false [(.int .i64,.nil)])],[],[4000000]⟩ 4000000 [((.exit 0),⟨[(3,.v false [(.sl 5 [.int .u8],(.own 4000000))])],[],[4000000]⟩)] 3 Ek Try.func22 0
def Kg:Ap:=Ao [g_3,g_0,g_3,g_3] (fun d=>(Ow d.1 d.2.1 d.2.2.1 d.2.2.2.1).val) fun r=>([rv g_0 r],[])
theorem Nb:Fn Try.prog 30 .plain Kg:=mkF [(26,.plain,Ke),(54,.plain,Na),(21,.plain,Ch),(23,.plain,Hl),(22,.plain,Ct)] ⟨M8,Rg,Ce,Hw,Cp,trivial⟩ Try.func30 0
def Zk:Ap:=Ao [] (fun d=>(Ze).val) fun r=>([rv g_4 r],[])
theorem Aff:Fn Try.prog 95 .plain Zk:=mkF [] trivial Try.func95 0
def Td:Ap:=Ao [] (fun d=>(S9).val) fun r=>([rv g_7 r],[])
theorem Aa4:Fn Try.prog 86 .plain Td:=mkF [(95,.plain,Zk)] ⟨Aff,trivial⟩ Try.func86 0
def K6:Ap:=Ao [g_4,g_3] (fun d=>(Kr d.1 d.2.1).val) fun r=>([rv g_1 r],[])
theorem Qs:Fn Try.prog 97 .plain K6:=C4 [(21,.plain,Ch)] ⟨Ce,trivial⟩ ⟨[(0,.v false [(.sl 3 [.int .i64],.ro)]),(1,.v false [(.int .i64,.nil)]),(7,.v false [(.sl 3 [.int .i64],.ro)]),(8,.v false [(.int .i64,.nil)]),(9,.v false [(.int .i64,.nil)])],[],[]⟩ 3000000 [(.ret,⟨[(4,.v false [(.bool,.nil)])],[],[]⟩),((.exit 0),⟨[(0,.v false [(.sl 3 [.int .i64],.ro)]),(1,.v false [(.int .i64,.nil)])],[],[]⟩)] 2 El Try.func97 0
def Pj:Ap:=Ao [g_7] (fun d=>(Ox d.1).val) fun r=>([rv g_1 r],[])
theorem Te:Fn Try.prog 91 .plain Pj:=mkF [(97,.plain,K6),(21,.plain,Ch)] ⟨Qs,Ce,trivial⟩ Try.func91 0
def Xe:Ap:=Ao [g_0,g_3,g_3] (fun d=>(Ww d.1 d.2.1 d.2.2.1).val) fun r=>([rv g_0 r.1,rv g_1 r.2],[])
theorem Aa5:Fn Try.prog 63 .plain Xe:=mkF [] trivial Try.func63 0
def Aa6:Ap:=Ao [g_0,g_3,g_3] (fun d=>(Tx d.1 d.2.1 d.2.2.1).val) fun r=>([rv g_3 r.1,rv g_3 r.2.1,rv g_1 r.2.2],[])
theorem Ag1:Fn Try.prog 103 .plain Aa6:=C4 [(63,.plain,Xe)] ⟨Aa5,trivial⟩ ⟨[(1,.v false [(.int .i64,.nil)]),(2,.v false [(.int .i64,.nil)]),(11,.v false [(.int .i64,.nil)]),(29,.v false [(.sl 5 [.int .u8],(.own 9000000))]),(30,.v false [(.int .i64,.nil)]),(31,.v false [(.int .i64,.nil)])],[],[9000000]⟩ 9000000 [((.exit 0),⟨[(1,.v false [(.int .i64,.nil)]),(2,.v false [(.int .i64,.nil)]),(11,.v false [(.int .i64,.nil)])],[],[]⟩)] 8 Gp Try.func103 0
def Xf:Ap:=Ao [g_3,g_3] (fun d=>(Wx d.1 d.2.1).val) fun r=>([rv g_3 r],[])
theorem Aa7:Fn Try.prog 100 .plain Xf:=mkF [] trivial Try.func100 0
def Rh:Ap:=Ao [g_0] (fun d=>(Ib d.1).val) fun r=>([rv g_4 r],[])
def F3:Fns:=[(103,.plain,Aa6),(100,.plain,Xf)]
theorem K7:CfgOk Try.prog (D4 F3):=F0 Lz Jt (show Jl Try.prog F3 from⟨Ag1,Aa7,trivial⟩)
def Nt:Sk:=⟨[(3,.v false [(.sl 3 [.int .i64],(.own 10000000))]),(5,.v false [(.int .i64,.nil)])],[],[10000000]⟩
def Nu:List (Ex×Sk):=[((.exit 2),⟨[(3,.v false [(.sl 3 [.int .i64],(.own 10000000))])],[],[10000000]⟩)]
def Nv:Sk:=⟨[(0,.v false [(.sl 5 [.int .u8],.ro)]),(3,.v false [(.sl 3 [.int .i64],(.own 6000000))]),(4,.v false [(.int .i64,.nil)])],[],[6000000]⟩
def Nw:List (Ex×Sk):=[((.exit 0),⟨[(3,.v false [(.sl 3 [.int .i64],(.own 6000000))])],[],[6000000]⟩)]
def F4:Fb:=fun i st=>cond (Nat.beq i 5) (lam Nv 6000000 Nw Dr st) <| cond (Nat.beq i 9) (lam Nt 10000000 Nu Ds st) <| .fail
theorem Vj (cx:Cx) (hp:cx.pin.length≤0):Dx Try.prog cx Try.f99.ntmps F4 (Az Try.f99 0):=Fp K7 hp (Dl (by kernel_rfl:A8 (Az Try.f99 0)=[]) trivial) (by kernel_rfl) (fun d=>(by kernel_rfl:bod (D4 F3) 0 Try.f99.ntmps F4 (Az Try.f99 0) Nv 6000000 Nw d=Dr d))
theorem Vk (cx:Cx) (hp:cx.pin.length≤0):Dx Try.prog cx Try.f99.ntmps F4 (Az Try.f99 1):=Fp K7 hp (Dl (by kernel_rfl:A8 (Az Try.f99 1)=[]) trivial) (by kernel_rfl) (fun d=>(by kernel_rfl:bod (D4 F3) 0 Try.f99.ntmps F4 (Az Try.f99 1) Nt 10000000 Nu d=Ds d))
theorem Aah:Fn Try.prog 99 .plain Rh:=Ph K7 Try.func99 (by kernel_rfl) (by kernel_rfl) (fun cx b hp hb=>Dl (by kernel_rfl:A8 (Try.f99.body.getD .skip)=[Az Try.f99 0,Az Try.f99 1]) ⟨Vj cx hp,Vk cx hp,trivial⟩ b hb) (fun d=>(by kernel_rfl:Ft (D4 F3) 0 F4 Try.f99 .plain (mkA [g_0] d)=(Ib d.1).run fun r=>some ([rv g_4 r],[])))
theorem Ag2 (n:Int) (w:World) (h0:0≤n) (h1:n≤63):
  Calls Try.prog 101 #[.int .i64 n] w (Ret w (.int .i64 (G7[n.toNat]?.getD 0))):=by
 have hx: ∃x,G7[n.toNat]? =some x:=⟨_,List.getElem?_eq_getElem (by simp[G7];omega)⟩
 obtain⟨x,hx⟩:=hx
 have hcell:(Ri 105 w Vl).cell? ⟨w.heap.size,n.toNat,none⟩=some (.int .i64 x):=by
  rw[Adh];unfold Vl;rw[List.getElem?_toArray,List.getElem?_map,hx];rfl
 rw[hx]
 go_enter Try.func101,Try.ntmps101
 go_wp2_with (first|(refine Aai rfl 105 _ rfl Vl (by kernel_rfl) ?_)|(refine Aaj rfl 105 rfl _ _ Vm (by kernel_rfl) (by kernel_rfl) (by kernel_rfl) ?_)|(refine Aak rfl 105 _ _ rfl Vl rfl rfl (by kernel_rfl) (by kernel_rfl) (by kernel_rfl) ?_))
 go_ret
 refine Ret.mk rfl ?_
 rw[Ag3]
 exact(A7.refl _).alloc _
theorem Ag4 (n:Int) (w:World) (h0: ¬(0≤n∧n≤63)):
  Calls Try.prog 101 #[.int .i64 n] w (Ret w (.int .i64 0)):=by
 by_cases h:n<0
 ·go_enter Try.func101,Try.ntmps101
  go_wp2_with fail
  go_ret
  exact Ret.mk rfl (A7.refl _)
 ·have h2:63<n:=by omega
  go_enter Try.func101,Try.ntmps101
  go_wp2_with fail
  go_ret
  exact Ret.mk rfl (A7.refl _)
def Aal:List (Bool×List Sh):=[(false,[.int .i64])]
def Aam (r:YI):List RV×List RV:=([rv (false,[.int .i64]) r],[])
def Qt:Ap:=Ao Aal (fun d=>(Qn d.1).val) Aam
theorem Xg:Fn Try.prog 101 .plain Qt:=by
 refine⟨?_,Try.f101,Try.func101,by kernel_rfl,by kernel_rfl⟩
 intro rs res vals w G hv hG hr
 obtain⟨d,x,rfl,h1,h2⟩:=Aa8 hv
 obtain⟨⟨n,_⟩,_⟩:=d
 cases h1
 subst h2
 match vals,hr with
 |[v],hr=>
  have e:v= .int .i64 n:=hr.1.1.1
  subst e
  refine(?_:Calls Try.prog 101 #[.int .i64 n] w (Ret w (.int .i64 (Js n)))).mono fun e w' h=>Ag5 (Ag6 n) h
  unfold Js
  by_cases h:0≤n∧n≤63
  ·rw[if_pos h];exact Ag2 n w h.1 h.2
  ·rw[if_neg h];exact Ag4 n w h

def Zl:Ap:=Ao [g_3,g_3] (fun d=>(Zf d.1 d.2.1).val) fun r=>([rv g_3 r],[])
theorem Afg:Fn Try.prog 102 .plain Zl:=mkF [] trivial Try.func102 0
def Rj:Ap:=Ao [g_4,g_0] (fun d=>(Ic d.1 d.2.1).val) fun r=>([rv g_4 r],[])
def F5:Fns:=[(97,.plain,K6),(99,.plain,Rh),(100,.plain,Xf),(101,.plain,Qt),(102,.plain,Zl)]
theorem K8:CfgOk Try.prog (D4 F5):=F0 Lz Jt (show Jl Try.prog F5 from⟨Qs,Aah,Aa7,Xg,Afg,trivial⟩)
def L0:Sk:=⟨[(0,.v false [(.sl 3 [.int .i64],.ro)]),(5,.v false [(.sl 3 [.int .i64],(.own 17000000))]),(133,.v false [(.sl 3 [.int .i64],(.own 17000001))]),(134,.v false [(.int .i64,.nil)]),(135,.v false [(.int .i64,.nil)])],[],[17000000,17000001]⟩
def L3:List (Ex×Sk):=[((.exit 2),⟨[(5,.v false [(.sl 3 [.int .i64],(.own 17000000))])],[],[17000000]⟩)]
def Nx:Sk:=⟨[(0,.v false [(.sl 3 [.int .i64],.ro)]),(5,.v false [(.sl 3 [.int .i64],(.own 8000000))]),(6,.v false [(.sl 3 [.int .i64],(.own 8000001))]),(7,.v false [(.int .i64,.nil)]),(8,.v false [(.int .i64,.nil)]),(9,.v false [(.int .i64,.nil)]),(10,.v false [(.int .i64,.nil)]),(11,.v false [(.int .i64,.nil)]),(12,.v false [(.int .i64,.nil)]),(13,.v false [(.int .i64,.nil)]),(14,.v false [(.int .i64,.nil)]),(15,.v false [(.int .i64,.nil)])],[],[8000000,8000001]⟩
def Ny:List (Ex×Sk):=[((.exit 0),⟨[(0,.v false [(.sl 3 [.int .i64],.ro)]),(5,.v false [(.sl 3 [.int .i64],(.own 8000000))]),(7,.v false [(.int .i64,.nil)]),(8,.v false [(.int .i64,.nil)]),(9,.v false [(.int .i64,.nil)]),(10,.v false [(.int .i64,.nil)]),(11,.v false [(.int .i64,.nil)]),(12,.v false [(.int .i64,.nil)]),(13,.v false [(.int .i64,.nil)]),(14,.v false [(.int .i64,.nil)])],[],[8000000]⟩)]
def F6:Fb:=fun i st=>cond (Nat.beq i 7) (lam Nx 8000000 Ny C8 st) <| cond (Nat.beq i 16) (lam L0 17000000 L3 Cq st) <| .fail
theorem Vn (cx:Cx) (hp:cx.pin.length≤0):Dx Try.prog cx Try.f98.ntmps F6 (Az Try.f98 0):=Fp K8 hp (Dl (by kernel_rfl:A8 (Az Try.f98 0)=[]) trivial) (by kernel_rfl) (fun d=>(by kernel_rfl:bod (D4 F5) 0 Try.f98.ntmps F6 (Az Try.f98 0) Nx 8000000 Ny d=C8 d))
theorem Ub (cx:Cx) (hp:cx.pin.length≤0):Dx Try.prog cx Try.f98.ntmps F6 (Az Try.f98 1):=Fp K8 hp (Dl (by kernel_rfl:A8 (Az Try.f98 1)=[]) trivial) (by kernel_rfl) (fun d=>(by kernel_rfl:bod (D4 F5) 0 Try.f98.ntmps F6 (Az Try.f98 1) L0 17000000 L3 d=Cq d))
theorem Aan:Fn Try.prog 98 .plain Rj:=Ph K8 Try.func98 (by kernel_rfl) (by kernel_rfl) (fun cx b hp hb=>Dl (by kernel_rfl:A8 (Try.f98.body.getD .skip)=[Az Try.f98 0,Az Try.f98 1]) ⟨Vn cx hp,Ub cx hp,trivial⟩ b hb) (fun d=>(by kernel_rfl:Ft (D4 F5) 0 F6 Try.f98 .plain (mkA [g_4,g_0] d)=(Ic d.1 d.2.1).run fun r=>some ([rv g_4 r],[])))
def Il:Ap:=Ao [g_4,g_0] (fun d=>(Id d.1 d.2.1).val) fun r=>([rv g_4 r.1,rv g_0 r.2],[])
theorem K9:Fn Try.prog 92 .view Il:=C4 [(98,.plain,Rj)] ⟨Aan,trivial⟩ ⟨[(0,.v false [(.sl 3 [.int .i64],.rd)]),(1,.v false [(.sl 5 [.int .u8],.ro)])],[],[]⟩ 2000000 [((.exit 0),⟨[(0,.v false [(.sl 3 [.int .i64],.rd)]),(1,.v false [(.sl 5 [.int .u8],.ro)])],[],[]⟩)] 1 Ca Try.func92 0
def Tf:Ap:=Ao [g_7,g_0] (fun d=>(Mp d.1 d.2.1).val) fun r=>([rv g_7 r],[])
theorem Aa9:Fn Try.prog 85 .plain Tf:=mkF [(91,.plain,Pj),(25,.plain,E0),(22,.plain,Ct),(92,.view,Il)] ⟨Te,Fc,Cp,K9,trivial⟩ Try.func85 0
def Aed:Ap:=Ao [g_3] (fun d=>(Wy d.1).val) fun r=>([rv g_0 r],[])
theorem Aim:Fn Try.prog 93 .plain Aed:=C4 [(21,.plain,Ch),(23,.plain,Hl)] ⟨Ce,Hw,trivial⟩ ⟨[(0,.v false [(.int .i64,.nil)]),(3,.v false [(.sl 5 [.int .u8],(.own 5000000))])],[],[5000000]⟩ 5000000 [((.exit 0),⟨[(0,.v false [(.int .i64,.nil)]),(3,.v false [(.sl 5 [.int .u8],(.own 5000000))])],[],[5000000]⟩)] 4 Fx Try.func93 0
def Qu:Ap:=Ao [g_4] (fun d=>(J4 d.1).val) fun r=>([rv g_0 r],[])
theorem Xh:Fn Try.prog 94 .plain Qu:=C4 [(23,.plain,Hl)] ⟨Hw,trivial⟩ ⟨[(3,.v false [(.sl 5 [.int .u8],(.own 4000000))]),(7,.v false [(.sl 3 [.int .i64],.ro)]),(8,.v false [(.int .i64,.nil)]),(9,.v false [(.int .i64,.nil)])],[],[4000000]⟩ 4000000 [((.exit 0),⟨[(3,.v false [(.sl 5 [.int .u8],(.own 4000000))])],[],[4000000]⟩)] 3 De Try.func94 0
def Tg:Ap:=Ao [g_7] (fun d=>(Mr d.1).val) fun r=>([rv g_0 r],[])
theorem Aba:Fn Try.prog 84 .plain Tg:=mkF [(91,.plain,Pj),(93,.plain,Aed),(22,.plain,Ct),(92,.view,Il),(94,.plain,Qu)] ⟨Te,Aim,Cp,K9,Xh,trivial⟩ Try.func84 0
def Xi:Ap:=Ao [g_0] (fun d=>(W0 d.1).val) fun r=>([rv g_0 r],[])
theorem Abb:Fn Try.prog 76 .plain Xi:=mkF [(86,.plain,Td),(85,.plain,Tf),(84,.plain,Tg)] ⟨Aa4,Aa9,Aba,trivial⟩ Try.func76 0
def Rk:Ap:=Ao [g_0] (fun d=>(Kt d.1).val) fun r=>([rv g_0 r],[])
theorem Aao:Fn Try.prog 75 .plain Rk:=C4 [(25,.plain,E0),(76,.plain,Xi)] ⟨Fc,Abb,trivial⟩ ⟨[(3,.v false [(.sl 5 [.int .u8],(.own 7000000))])],[],[7000000]⟩ 7000000 [((.exit 0),⟨[(3,.v false [(.sl 5 [.int .u8],(.own 7000000))])],[],[7000000]⟩)] 6 Cj Try.func75 0
def Vo:Ap:=Ao [g_0,g_8] (fun d=>(Oy d.1 d.2.1).val) fun r=>([rv g_0 r],[])
theorem Adi:Fn Try.prog 77 .plain Vo:=C4 [] trivial ⟨[(1,.v false [(.int .u8,.nil)]),(5,.v false [(.sl 5 [.int .u8],(.own 4000000))]),(9,.v false [(.sl 5 [.int .u8],.ro)]),(10,.v false [(.int .i64,.nil)]),(11,.v false [(.int .i64,.nil)])],[],[4000000]⟩ 4000000 [((.exit 0),⟨[(5,.v false [(.sl 5 [.int .u8],(.own 4000000))])],[],[4000000]⟩)] 3 Em Try.func77 0
def La:Ap:=Ao [g_0,g_0] (fun d=>(T0 d.1 d.2.1).val) fun r=>([rv g_0 r],[])
theorem L4:Fn Try.prog 58 .plain La:=mkF [(75,.plain,Rk),(77,.plain,Vo),(22,.plain,Ct),(76,.plain,Xi)] ⟨Aao,Adi,Cp,Abb,trivial⟩ Try.func58 0
def Th:Ap:=Ao [g_0,g_0,g_3] (fun d=>(Mt d.1 d.2.1 d.2.2.1).val) fun r=>([rv g_0 r],[])
theorem Abc:Fn Try.prog 74 .plain Th:=mkF [(21,.plain,Ch),(22,.plain,Ct),(23,.plain,Hl),(58,.plain,La)] ⟨Ce,Cp,Hw,L4,trivial⟩ Try.func74 0
def Vp:Ap:=Ao [g_0,g_0,g_3] (fun d=>(Oz d.1 d.2.1 d.2.2.1).val) fun r=>([rv g_0 r],[])
theorem Adj:Fn Try.prog 57 .plain Vp:=C4 [(21,.plain,Ch),(74,.plain,Th),(25,.plain,E0)] ⟨Ce,Abc,Fc,trivial⟩ ⟨[(0,.v false [(.sl 5 [.int .u8],.ro)]),(1,.v false [(.sl 5 [.int .u8],.ro)]),(2,.v false [(.int .i64,.nil)]),(7,.v false [(.sl 5 [.int .u8],(.own 6000000))]),(8,.v false [(.int .i64,.nil)])],[],[6000000]⟩ 6000000 [((.exit 0),⟨[(2,.v false [(.int .i64,.nil)]),(7,.v false [(.sl 5 [.int .u8],(.own 6000000))])],[],[6000000]⟩)] 5 En Try.func57 0
def Sm:Ap:=Ao [g_0,g_0,g_0] (fun d=>(W1 d.1 d.2.1 d.2.2.1).val) fun r=>([rv g_0 r],[])
theorem Uc:Fn Try.prog 29 .plain Sm:=C4 [(57,.plain,Vp)] ⟨Adj,trivial⟩ ⟨[(2,.v false [(.sl 5 [.int .u8],.ro)]),(7,.v false [(.sl 5 [.int .u8],(.own 6000000))]),(28,.v false [(.sl 5 [.int .u8],(.own 6000001))]),(29,.v false [(.int .i64,.nil)]),(30,.v false [(.int .i64,.nil)])],[],[6000000,6000001]⟩ 6000000 [((.exit 0),⟨[(7,.v false [(.sl 5 [.int .u8],(.own 6000000))])],[],[6000000]⟩)] 5 Ht Try.func29 0
def Im:Ap:=Ao [g_3,g_5] (fun d=>(Kv d.1 d.2.1).val) fun r=>([rv g_0 r],[])
theorem J6:Fn Try.prog 24 .plain Im:=mkF [(26,.plain,Ke),(27,.plain,Kf),(28,.plain,Jm),(30,.plain,Kg),(22,.plain,Ct)] ⟨M8,M9,K5,Nb,Cp,trivial⟩ Try.func24 0
def So:Ap:=Ao [g_0,g_0] (fun d=>(W2 d.1 d.2.1).val) fun r=>([rv g_0 r],[])
theorem Ud:Fn Try.prog 31 .plain So:=mkF [(58,.plain,La),(25,.plain,E0)] ⟨L4,Fc,trivial⟩ Try.func31 0
def Ue:Ap:=Ao [g_0,g_3,g_0,g_3,g_3,g_3,g_0] (fun d=>(T1 d.1 d.2.1 d.2.2.1 d.2.2.2.1 d.2.2.2.2.1 d.2.2.2.2.2.1 d.2.2.2.2.2.2.1).val) fun r=>([rv g_5 r.1,rv g_1 r.2],[])
theorem Zm:Fn Try.prog 8 .plain Ue:=mkF [(25,.plain,E0),(26,.plain,Ke),(27,.plain,Kf),(28,.plain,Jm),(30,.plain,Kg),(29,.plain,Sm),(24,.plain,Im),(31,.plain,So)] ⟨Fc,M8,M9,K5,Nb,Uc,J6,Ud,trivial⟩ Try.func8 0
def Zn:Ap:=Ao [g_0,g_3,g_3,g_0,g_3,g_3,g_3,g_0] (fun d=>(Q4 d.1 d.2.1 d.2.2.1 d.2.2.2.1 d.2.2.2.2.1 d.2.2.2.2.2.1 d.2.2.2.2.2.2.1 d.2.2.2.2.2.2.2.1).val) fun r=>([rv g_9 r],[])
theorem Afh:Fn Try.prog 7 .plain Zn:=mkF [(8,.plain,Ue),(21,.plain,Ch),(23,.plain,Hl),(22,.plain,Ct),(24,.plain,Im)] ⟨Zm,Ce,Hw,Cp,J6,trivial⟩ Try.func7 0
def F7:Ap:=Ao [g_3,g_3,g_3] (fun d=>(T2 d.1 d.2.1 d.2.2.1).val) fun r=>([rv g_1 r],[])
theorem F8:Fn Try.prog 59 .plain F7:=mkF [] trivial Try.func59 0
def Lb:Ap:=Ao [g_0,g_3,g_3] (fun d=>(T3 d.1 d.2.1 d.2.2.1).val) fun r=>([rv g_0 r],[])
theorem L5:Fn Try.prog 60 .plain Lb:=C4 [] trivial ⟨[(1,.v false [(.int .i64,.nil)]),(7,.v false [(.sl 5 [.int .u8],(.own 6000000))]),(8,.v false [(.int .i64,.nil)])],[],[6000000]⟩ 6000000 [((.exit 0),⟨[(7,.v false [(.sl 5 [.int .u8],(.own 6000000))])],[],[6000000]⟩)] 5 Ie Try.func60 0
def Pk:Ap:=Ao [g_3,g_0,g_3,g_3] (fun d=>(O4 d.1 d.2.1 d.2.2.1 d.2.2.2.1).val) fun r=>([rv g_0 r],[])
theorem Ti:Fn Try.prog 32 .plain Pk:=mkF [(59,.plain,F7),(60,.plain,Lb)] ⟨F8,L5,trivial⟩ Try.func32 0
def Kh:Ap:=Ao [g_3] (fun d=>(O5 d.1).val) fun r=>([rv g_1 r],[])
theorem Nc:Fn Try.prog 33 .plain Kh:=mkF [(59,.plain,F7)] ⟨F8,trivial⟩ Try.func33 0
def Pm:Ap:=Ao [g_3,g_3] (fun d=>(O6 d.1 d.2.1).val) fun r=>([rv g_1 r],[])
theorem Tj:Fn Try.prog 34 .plain Pm:=mkF [] trivial Try.func34 0
def Aee:Ap:=Ao [g_3] (fun d=>(W3 d.1).val) fun r=>([rv g_0 r],[])
theorem Ain:Fn Try.prog 80 .plain Aee:=C4 [(60,.plain,Lb)] ⟨L5,trivial⟩ ⟨[(0,.v false [(.int .i64,.nil)]),(3,.v false [(.sl 5 [.int .u8],(.own 5000000))])],[],[5000000]⟩ 5000000 [((.exit 0),⟨[(0,.v false [(.int .i64,.nil)]),(3,.v false [(.sl 5 [.int .u8],(.own 5000000))])],[],[5000000]⟩)] 4 Q6 Try.func80 0
def Zo:Ap:=Ao [] (fun d=>(Zg).val) fun r=>([rv g_4 r],[])
theorem Afi:Fn Try.prog 81 .plain Zo:=mkF [] trivial Try.func81 0
def Tk:Ap:=Ao [g_4] (fun d=>(Mv d.1).val) fun r=>([rv g_1 r],[])
theorem Abd:Fn Try.prog 87 .plain Tk:=C4 [(59,.plain,F7)] ⟨F8,trivial⟩ ⟨[(0,.v false [(.sl 3 [.int .i64],.ro)]),(3,.v false [(.int .i64,.nil)])],[],[]⟩ 3000000 [(.ret,⟨[(2,.v false [(.bool,.nil)])],[],[]⟩),((.exit 0),⟨[(0,.v false [(.sl 3 [.int .i64],.ro)])],[],[]⟩)] 2 Fj Try.func87 0
def Aef:Ap:=Ao [] (fun d=>(Aea).val) fun r=>([rv g_4 r],[])
theorem Aio:Fn Try.prog 88 .plain Aef:=mkF [] trivial Try.func88 0
def Abe:Ap:=Ao [g_0,g_3,g_3] (fun d=>(T4 d.1 d.2.1 d.2.2.1).val) fun r=>([rv g_3 r.1,rv g_3 r.2.1,rv g_1 r.2.2],[])
theorem Ag7:Fn Try.prog 96 .plain Abe:=C4 [] trivial ⟨[(0,.v false [(.sl 5 [.int .u8],.ro)]),(1,.v false [(.int .i64,.nil)]),(2,.v false [(.int .i64,.nil)]),(9,.v false [(.int .i64,.nil)]),(10,.v false [(.int .i64,.nil)])],[],[]⟩ 6000000 [((.exit 0),⟨[(1,.v false [(.int .i64,.nil)]),(2,.v false [(.int .i64,.nil)]),(9,.v false [(.int .i64,.nil)])],[],[]⟩)] 5 Gq Try.func96 0
def Xj:Ap:=Ao [g_3,g_3] (fun d=>(W5 d.1 d.2.1).val) fun r=>([rv g_3 r],[])
theorem Abf:Fn Try.prog 90 .plain Xj:=mkF [] trivial Try.func90 0
def Rl:Ap:=Ao [g_0] (fun d=>(Ih d.1).val) fun r=>([rv g_4 r],[])
def F9:Fns:=[(96,.plain,Abe),(90,.plain,Xj)]
theorem Lc:CfgOk Try.prog (D4 F9):=F0 Lz Jt (show Jl Try.prog F9 from⟨Ag7,Abf,trivial⟩)
def L6:Sk:=⟨[(3,.v false [(.sl 3 [.int .i64],(.own 11000000))]),(8,.v false [(.int .i64,.nil)])],[],[11000000]⟩
def L7:List (Ex×Sk):=[((.exit 2),⟨[(3,.v false [(.sl 3 [.int .i64],(.own 11000000))])],[],[11000000]⟩)]
def Nz:Sk:=⟨[(0,.v false [(.sl 5 [.int .u8],.ro)]),(3,.v false [(.sl 3 [.int .i64],(.own 6000000))]),(4,.v false [(.int .i64,.nil)])],[],[6000000]⟩
def N0:List (Ex×Sk):=[((.exit 0),⟨[(3,.v false [(.sl 3 [.int .i64],(.own 6000000))])],[],[6000000]⟩)]
def Ga:Fb:=fun i st=>cond (Nat.beq i 5) (lam Nz 6000000 N0 Dt st) <| cond (Nat.beq i 10) (lam L6 11000000 L7 Df st) <| .fail
theorem Vq (cx:Cx) (hp:cx.pin.length≤0):Dx Try.prog cx Try.f89.ntmps Ga (Az Try.f89 0):=Fp Lc hp (Dl (by kernel_rfl:A8 (Az Try.f89 0)=[]) trivial) (by kernel_rfl) (fun d=>(by kernel_rfl:bod (D4 F9) 0 Try.f89.ntmps Ga (Az Try.f89 0) Nz 6000000 N0 d=Dt d))
theorem Uf (cx:Cx) (hp:cx.pin.length≤0):Dx Try.prog cx Try.f89.ntmps Ga (Az Try.f89 1):=Fp Lc hp (Dl (by kernel_rfl:A8 (Az Try.f89 1)=[]) trivial) (by kernel_rfl) (fun d=>(by kernel_rfl:bod (D4 F9) 0 Try.f89.ntmps Ga (Az Try.f89 1) L6 11000000 L7 d=Df d))
theorem Aap:Fn Try.prog 89 .plain Rl:=Ph Lc Try.func89 (by kernel_rfl) (by kernel_rfl) (fun cx b hp hb=>Dl (by kernel_rfl:A8 (Try.f89.body.getD .skip)=[Az Try.f89 0,Az Try.f89 1]) ⟨Vq cx hp,Uf cx hp,trivial⟩ b hb) (fun d=>(by kernel_rfl:Ft (D4 F9) 0 Ga Try.f89 .plain (mkA [g_0] d)=(Ih d.1).run fun r=>some ([rv g_4 r],[])))
def Rm:Ap:=Ao [g_4,g_0] (fun d=>(Ii d.1 d.2.1).val) fun r=>([rv g_4 r],[])
def Gb:Fns:=[(87,.plain,Tk),(88,.plain,Aef),(89,.plain,Rl),(90,.plain,Xj)]
theorem Ld:CfgOk Try.prog (D4 Gb):=F0 Lz Jt (show Jl Try.prog Gb from⟨Abd,Aio,Aap,Abf,trivial⟩)
def L8:Sk:=⟨[(0,.v false [(.sl 3 [.int .i64],.ro)]),(5,.v false [(.sl 3 [.int .i64],(.own 23000000))]),(19,.v false [(.sl 3 [.int .i64],(.own 23000001))]),(20,.v false [(.int .i64,.nil)])],[],[23000000,23000001]⟩
def L9:List (Ex×Sk):=[((.exit 2),⟨[(5,.v false [(.sl 3 [.int .i64],(.own 23000000))])],[],[23000000]⟩)]
def N3:Sk:=⟨[(0,.v false [(.sl 3 [.int .i64],.ro)]),(5,.v false [(.sl 3 [.int .i64],(.own 9000000))]),(6,.v false [(.sl 3 [.int .i64],(.own 9000001))]),(7,.v false [(.sl 3 [.int .i64],(.own 9000002))]),(8,.v false [(.int .i64,.nil)]),(9,.v false [(.int .i64,.nil)]),(10,.v false [(.int .i64,.nil)]),(11,.v false [(.int .i64,.nil)]),(12,.v false [(.int .i64,.nil)]),(13,.v false [(.int .i64,.nil)]),(14,.v false [(.int .i64,.nil)]),(15,.v false [(.int .i64,.nil)]),(16,.v false [(.int .i64,.nil)])],[],[9000000,9000001,9000002]⟩
def N4:List (Ex×Sk):=[((.exit 0),⟨[(0,.v false [(.sl 3 [.int .i64],.ro)]),(5,.v false [(.sl 3 [.int .i64],(.own 9000000))]),(8,.v false [(.int .i64,.nil)]),(9,.v false [(.int .i64,.nil)]),(10,.v false [(.int .i64,.nil)]),(11,.v false [(.int .i64,.nil)]),(12,.v false [(.int .i64,.nil)]),(13,.v false [(.int .i64,.nil)]),(14,.v false [(.int .i64,.nil)]),(15,.v false [(.int .i64,.nil)])],[],[9000000]⟩)]
def Gc:Fb:=fun i st=>cond (Nat.beq i 8) (lam N3 9000000 N4 C9 st) <| cond (Nat.beq i 22) (lam L8 23000000 L9 Cr st) <| .fail
theorem Vr (cx:Cx) (hp:cx.pin.length≤0):Dx Try.prog cx Try.f82.ntmps Gc (Az Try.f82 0):=Fp Ld hp (Dl (by kernel_rfl:A8 (Az Try.f82 0)=[]) trivial) (by kernel_rfl) (fun d=>(by kernel_rfl:bod (D4 Gb) 0 Try.f82.ntmps Gc (Az Try.f82 0) N3 9000000 N4 d=C9 d))
theorem Ug (cx:Cx) (hp:cx.pin.length≤0):Dx Try.prog cx Try.f82.ntmps Gc (Az Try.f82 1):=Fp Ld hp (Dl (by kernel_rfl:A8 (Az Try.f82 1)=[]) trivial) (by kernel_rfl) (fun d=>(by kernel_rfl:bod (D4 Gb) 0 Try.f82.ntmps Gc (Az Try.f82 1) L8 23000000 L9 d=Cr d))
theorem Aaq:Fn Try.prog 82 .plain Rm:=Ph Ld Try.func82 (by kernel_rfl) (by kernel_rfl) (fun cx b hp hb=>Dl (by kernel_rfl:A8 (Try.f82.body.getD .skip)=[Az Try.f82 0,Az Try.f82 1]) ⟨Vr cx hp,Ug cx hp,trivial⟩ b hb) (fun d=>(by kernel_rfl:Ft (D4 Gb) 0 Gc Try.f82 .plain (mkA [g_4,g_0] d)=(Ii d.1 d.2.1).run fun r=>some ([rv g_4 r],[])))
def Zp:Ap:=Ao [g_4] (fun d=>(Q7 d.1).val) fun r=>([rv g_0 r],[])
theorem Afj:Fn Try.prog 83 .plain Zp:=C4 [(60,.plain,Lb)] ⟨L5,trivial⟩ ⟨[(0,.v false [(.sl 3 [.int .i64],.ro)]),(3,.v false [(.sl 5 [.int .u8],(.own 4000000))]),(4,.v false [(.int .i64,.nil)])],[],[4000000]⟩ 4000000 [((.exit 0),⟨[(3,.v false [(.sl 5 [.int .u8],(.own 4000000))])],[],[4000000]⟩)] 3 Fo Try.func83 0
def Xk:Ap:=Ao [g_0] (fun d=>(W6 d.1).val) fun r=>([rv g_0 r],[])
theorem Abg:Fn Try.prog 71 .plain Xk:=C4 [(80,.plain,Aee),(81,.plain,Zo),(82,.plain,Rm),(83,.plain,Zp)] ⟨Ain,Afi,Aaq,Afj,trivial⟩ ⟨[(3,.v false [(.sl 5 [.int .u8],(.own 7000000))]),(4,.v false [(.sl 3 [.int .i64],(.own 7000001))]),(5,.v false [(.int .i64,.nil)])],[],[7000000,7000001]⟩ 7000000 [((.exit 0),⟨[(4,.v false [(.sl 3 [.int .i64],(.own 7000000))])],[],[7000000]⟩)] 6 Hu Try.func71 0
def Rn:Ap:=Ao [g_0] (fun d=>(Kx d.1).val) fun r=>([rv g_0 r],[])
theorem Aar:Fn Try.prog 70 .plain Rn:=C4 [(71,.plain,Xk)] ⟨Abg,trivial⟩ ⟨[(3,.v false [(.sl 5 [.int .u8],(.own 7000000))])],[],[7000000]⟩ 7000000 [((.exit 0),⟨[(3,.v false [(.sl 5 [.int .u8],(.own 7000000))])],[],[7000000]⟩)] 6 Gr Try.func70 0
def Uh:Ap:=Ao [g_0,g_0] (fun d=>(T6 d.1 d.2.1).val) fun r=>([rv g_0 r],[])
theorem Zq:Fn Try.prog 50 .plain Uh:=C4 [(70,.plain,Rn),(71,.plain,Xk)] ⟨Aar,Abg,trivial⟩ ⟨[(1,.v false [(.sl 5 [.int .u8],.ro)]),(5,.v false [(.sl 5 [.int .u8],(.own 8000000))]),(6,.v false [(.sl 5 [.int .u8],(.own 8000001))]),(7,.v false [(.sl 5 [.int .u8],(.own 8000002))]),(8,.v false [(.int .i64,.nil)])],[],[8000000,8000001,8000002]⟩ 8000000 [((.exit 0),⟨[(1,.v false [(.sl 5 [.int .u8],.ro)]),(6,.v false [(.sl 5 [.int .u8],(.own 8000000))]),(7,.v false [(.sl 5 [.int .u8],(.own 8000001))])],[],[8000000,8000001]⟩)] 7 Gs Try.func50 0
def Tl:Ap:=Ao [g_0,g_0,g_3] (fun d=>(Mx d.1 d.2.1 d.2.2.1).val) fun r=>([rv g_0 r],[])
theorem Abh:Fn Try.prog 78 .plain Tl:=mkF [(59,.plain,F7),(60,.plain,Lb),(50,.plain,Uh)] ⟨F8,L5,Zq,trivial⟩ Try.func78 0
def Vs:Ap:=Ao [g_0,g_0,g_3] (fun d=>(O8 d.1 d.2.1 d.2.2.1).val) fun r=>([rv g_0 r],[])
theorem Adk:Fn Try.prog 61 .plain Vs:=C4 [(59,.plain,F7),(78,.plain,Tl)] ⟨F8,Abh,trivial⟩ ⟨[(0,.v false [(.sl 5 [.int .u8],.ro)]),(1,.v false [(.sl 5 [.int .u8],.ro)]),(2,.v false [(.int .i64,.nil)]),(7,.v false [(.sl 5 [.int .u8],(.own 6000000))]),(8,.v false [(.int .i64,.nil)])],[],[6000000]⟩ 6000000 [((.exit 0),⟨[(2,.v false [(.int .i64,.nil)]),(7,.v false [(.sl 5 [.int .u8],(.own 6000000))])],[],[6000000]⟩)] 5 Eo Try.func61 0
def Aeg:Ap:=Ao [g_0,g_0,g_0] (fun d=>(W7 d.1 d.2.1 d.2.2.1).val) fun r=>([rv g_0 r],[])
theorem Aip:Fn Try.prog 35 .plain Aeg:=C4 [(61,.plain,Vs)] ⟨Adk,trivial⟩ ⟨[(2,.v false [(.sl 5 [.int .u8],.ro)]),(7,.v false [(.sl 5 [.int .u8],(.own 7000000))]),(8,.v false [(.sl 5 [.int .u8],(.own 7000001))]),(9,.v false [(.int .i64,.nil)])],[],[7000000,7000001]⟩ 7000000 [((.exit 0),⟨[(7,.v false [(.sl 5 [.int .u8],(.own 7000000))])],[],[7000000]⟩)] 6 Hv Try.func35 0
def Tm:Ap:=Ao [g_5] (fun d=>(Mz d.1).val) fun r=>([rv g_1 r],[])
theorem Abi:Fn Try.prog 62 .plain Tm:=mkF [(33,.plain,Kh),(59,.plain,F7),(34,.plain,Pm)] ⟨Nc,F8,Tj,trivial⟩ Try.func62 0
def Ro:Ap:=Ao [g_3,g_5] (fun d=>(Kz d.1 d.2.1).val) fun r=>([rv g_0 r],[])
theorem Aas:Fn Try.prog 37 .plain Ro:=mkF [(59,.plain,F7),(62,.plain,Tm),(33,.plain,Kh),(32,.plain,Pk)] ⟨F8,Abi,Nc,Ti,trivial⟩ Try.func37 0
def Aeh:Ap:=Ao [g_0,g_0] (fun d=>(W9 d.1 d.2.1).val) fun r=>([rv g_0 r],[])
theorem Aiq:Fn Try.prog 36 .plain Aeh:=mkF [(50,.plain,Uh)] ⟨Zq,trivial⟩ Try.func36 0
def Abj:Ap:=Ao [g_0,g_3,g_0,g_3,g_3,g_3,g_0] (fun d=>(Pa d.1 d.2.1 d.2.2.1 d.2.2.2.1 d.2.2.2.2.1 d.2.2.2.2.2.1 d.2.2.2.2.2.2.1).val) fun r=>([rv g_5 r.1,rv g_1 r.2],[])
def Pn:Fns:=[(32,.plain,Pk),(33,.plain,Kh),(34,.plain,Pm),(35,.plain,Aeg),(37,.plain,Ro),(36,.plain,Aeh)]
theorem Abk:CfgOk Try.prog (D4 Pn):=F0 Lz Jt (show Jl Try.prog Pn from⟨Ti,Nc,Tj,Aip,Aas,Aiq,trivial⟩)
def Vt:Sk:=⟨[(0,.v false [(.sl 5 [.int .u8],.ro)]),(1,.v false [(.int .i64,.nil)]),(14,.box 14 0),(17,.box 17 0),(18,.v false [(.int .i64,.nil)])],[(14,[(.int .i64,.nil),(.int .i64,.nil),(.sl 5 [.int .u8],(.own 7000000)),(.sl 5 [.int .u8],(.own 7000001)),(.int .i64,.nil),(.sl 5 [.int .u8],(.own 7000002)),(.sl 5 [.int .u8],(.own 7000003)),(.int .i64,.nil),(.int .i64,.nil),(.sl 5 [.int .u8],(.own 7000004)),(.sl 5 [.int .u8],(.own 7000005))]),(17,[(.int .i64,.nil),(.int .i64,.nil),(.sl 5 [.int .u8],(.own 7000006)),(.sl 5 [.int .u8],(.own 7000007)),(.int .i64,.nil),(.sl 5 [.int .u8],(.own 7000008)),(.sl 5 [.int .u8],(.own 7000009)),(.int .i64,.nil),(.int .i64,.nil),(.sl 5 [.int .u8],(.own 7000010)),(.sl 5 [.int .u8],(.own 7000011))])],[7000000,7000001,7000002,7000003,7000004,7000005,7000006,7000007,7000008,7000009,7000010,7000011]⟩
def Vu:List (Ex×Sk):=[((.exit 0),⟨[(0,.v false [(.sl 5 [.int .u8],.ro)]),(1,.v false [(.int .i64,.nil)]),(14,.box 14 0),(17,.box 17 0)],[(14,[(.int .i64,.nil),(.int .i64,.nil),(.sl 5 [.int .u8],(.own 7000000)),(.sl 5 [.int .u8],(.own 7000001)),(.int .i64,.nil),(.sl 5 [.int .u8],(.own 7000002)),(.sl 5 [.int .u8],(.own 7000003)),(.int .i64,.nil),(.int .i64,.nil),(.sl 5 [.int .u8],(.own 7000004)),(.sl 5 [.int .u8],(.own 7000005))]),(17,[(.int .i64,.nil),(.int .i64,.nil),(.sl 5 [.int .u8],(.own 7000006)),(.sl 5 [.int .u8],(.own 7000007)),(.int .i64,.nil),(.sl 5 [.int .u8],(.own 7000008)),(.sl 5 [.int .u8],(.own 7000009)),(.int .i64,.nil),(.int .i64,.nil),(.sl 5 [.int .u8],(.own 7000010)),(.sl 5 [.int .u8],(.own 7000011))])],[7000000,7000001,7000002,7000003,7000004,7000005,7000006,7000007,7000008,7000009,7000010,7000011]⟩)]
def Ui:Fb:=fun i st=>cond (Nat.beq i 6) (lam Vt 7000000 Vu Fa st) <| .fail
theorem Adl (cx:Cx) (hp:cx.pin.length≤0):Dx Try.prog cx Try.f9.ntmps Ui (Az Try.f9 0):=Fp Abk hp (Dl (by kernel_rfl:A8 (Az Try.f9 0)=[]) trivial) (by kernel_rfl) (fun d=>(by kernel_rfl:bod (D4 Pn) 0 Try.f9.ntmps Ui (Az Try.f9 0) Vt 7000000 Vu d=Fa d))
theorem Ag8:Fn Try.prog 9 .plain Abj:=Ph Abk Try.func9 (by kernel_rfl) (by kernel_rfl) (fun cx b hp hb=>Dl (by kernel_rfl:A8 (Try.f9.body.getD .skip)=[Az Try.f9 0]) ⟨Adl cx hp,trivial⟩ b hb) (fun d=>(by kernel_rfl:Ft (D4 Pn) 0 Ui Try.f9 .plain (mkA [g_0,g_3,g_0,g_3,g_3,g_3,g_0] d)=(Pa d.1 d.2.1 d.2.2.1 d.2.2.2.1 d.2.2.2.2.1 d.2.2.2.2.2.1 d.2.2.2.2.2.2.1).run fun r=>some ([rv g_5 r.1,rv g_1 r.2],[])))
def Rp:Ap:=Ao [g_3] (fun d=>(Q9 d.1).val) fun r=>([rv g_3 r],[])
theorem Aat:Fn Try.prog 38 .plain Rp:=mkF [] trivial Try.func38 0
def Vv:Ap:=Ao [Akt] (fun d=>(Pb d.1).val) fun r=>([rv g_1 r],[])
theorem Adm:Fn Try.prog 39 .plain Vv:=mkF [(21,.plain,Ch)] ⟨Ce,trivial⟩ Try.func39 0
def Zr:Ap:=Ao [g_0,g_0] (fun d=>(Zi d.1 d.2.1).val) fun r=>([rv g_0 r],[])
theorem Afk:Fn Try.prog 64 .plain Zr:=C4 [] trivial ⟨[(1,.v false [(.sl 5 [.int .u8],.ro)]),(5,.v false [(.sl 5 [.int .u8],(.own 4000000))]),(9,.v false [(.sl 5 [.int .u8],.ro)]),(10,.v false [(.int .i64,.nil)]),(11,.v false [(.int .i64,.nil)])],[],[4000000]⟩ 4000000 [((.exit 0),⟨[(5,.v false [(.sl 5 [.int .u8],(.own 4000000))])],[],[4000000]⟩)] 3 Tb Try.func64 0
def Vw:Ap:=Ao [g_0,g_0,g_3] (fun d=>(Vd d.1 d.2.1 d.2.2.1).val) fun r=>([rv g_0 r.1,rv g_1 r.2],[])
theorem Adn:Fn Try.prog 52 .plain Vw:=C4 [(21,.plain,Ch),(22,.plain,Ct),(58,.plain,La),(25,.plain,E0)] ⟨Ce,Cp,L4,Fc,trivial⟩ ⟨[(0,.v false [(.sl 5 [.int .u8],.ro)]),(1,.v false [(.sl 5 [.int .u8],.ro)]),(2,.v false [(.int .i64,.nil)]),(8,.v false [(.sl 5 [.int .u8],(.own 7000000))]),(9,.v false [(.sl 5 [.int .u8],(.own 7000001))]),(10,.v false [(.int .i64,.nil)])],[],[7000000,7000001]⟩ 7000000 [((.exit 0),⟨[(2,.v false [(.int .i64,.nil)]),(8,.v false [(.sl 5 [.int .u8],(.own 7000000))])],[],[7000000]⟩)] 6 Ra Try.func52 0
def Vx:Ap:=Ao [g_0,Al0] (fun d=>(Ve d.1 d.2.1).val) fun r=>([rv g_0 r],[])
theorem Ado:Fn Try.prog 16 .plain Vx:=mkF [(52,.plain,Vw)] ⟨Adn,trivial⟩ Try.func16 0
def Vy:Ap:=Ao [Akt,g_6,Aku,g_6] (fun d=>(Gt d.1 d.2.1 d.2.2.1 d.2.2.2.1).val) fun r=>([rv g_0 r.1,rv g_1 r.2],[])
theorem Adp:Fn Try.prog 40 .view Vy:=mkF [(63,.plain,Xe),(22,.plain,Ct),(64,.plain,Zr),(58,.plain,La),(31,.plain,So),(16,.plain,Vx),(29,.plain,Sm)] ⟨Aa5,Cp,Afk,L4,Ud,Ado,Uc,trivial⟩ Try.func40 0
def Abl:Ap:=Ao [g_9,Aku,g_6] (fun d=>(Pd d.1 d.2.1 d.2.2.1).val) fun r=>([rv g_0 r.1,rv g_1 r.2],[])
theorem Ag9:Fn Try.prog 10 .plain Abl:=C4 [(38,.plain,Rp),(39,.plain,Vv),(40,.view,Vy),(25,.plain,E0)] ⟨Aat,Adm,Adp,Fc,trivial⟩ ⟨[(1,.v false [(.sl 72 h_4,.ro)]),(2,.v false [(.sl 22 [.sl 5 [.int .u8]],.ro)]),(8,.v false [(.sl 22 [.sl 5 [.int .u8]],(.row 6000000))]),(18,.v false [(.sl 42 h_3,.ro)]),(19,.v false [(.int .i64,.nil)]),(20,.v false [(.int .i64,.nil)])],[],[6000000]⟩ 6000000 [(.ret,⟨[(6,.v false [(.sl 5 [.int .u8],(.own 6000000))]),(7,.v false [(.bool,.nil)])],[],[6000000]⟩),((.exit 0),⟨[(8,.v false [(.sl 22 [.sl 5 [.int .u8]],(.row 6000000))])],[],[6000000]⟩)] 5 Bx Try.func10 0
def Abm:Ap:=Ao [g_0,g_0] (fun d=>(T8 d.1 d.2.1).val) fun r=>([rv g_3 r],[])
theorem Aha:Fn Try.prog 65 .plain Abm:=C4 [] trivial ⟨[(0,.v false [(.sl 5 [.int .u8],.ro)]),(1,.v false [(.sl 5 [.int .u8],.ro)]),(5,.v false [(.int .i64,.nil)]),(13,.v false [(.int .i64,.nil)]),(14,.v false [(.int .i64,.nil)])],[],[]⟩ 6000000 [((.exit 0),⟨[(5,.v false [(.int .i64,.nil)])],[],[]⟩)] 5 Gu Try.func65 0
def Tn:Ap:=Ao [g_0,g_0] (fun d=>(M4 d.1 d.2.1).val) fun r=>([rv g_1 r],[])
theorem Abn:Fn Try.prog 41 .plain Tn:=mkF [(65,.plain,Abm)] ⟨Aha,trivial⟩ Try.func41 0
def Vz:Ap:=Ao [g_0,g_3,g_5] (fun d=>(Pe d.1 d.2.1 d.2.2.1).val) fun r=>([rv g_0 r.1,rv g_1 r.2],[])
theorem Adq:Fn Try.prog 11 .plain Vz:=mkF [(24,.plain,Im),(31,.plain,So),(41,.plain,Tn),(30,.plain,Kg),(29,.plain,Sm)] ⟨J6,Ud,Abn,Nb,Uc,trivial⟩ Try.func11 0
def Rq:Ap:=Ao [g_5] (fun d=>(K2 d.1).val) fun r=>([rv g_0 r],[])
theorem Aau:Fn Try.prog 13 .plain Rq:=mkF [(28,.plain,Jm),(22,.plain,Ct),(23,.plain,Hl)] ⟨K5,Cp,Hw,trivial⟩ Try.func13 0
def Abo:Ap:=Ao [g_0,g_0] (fun d=>(Ua d.1 d.2.1).val) fun r=>([rv g_1 r],[])
theorem Ahb:Fn Try.prog 12 .plain Abo:=mkF [] trivial Try.func12 0
def Ip:List (Bool×List Sh):=[g_0]
def Rr (r:(Bool×Unit)):List RV×List RV:=([rv g_1 r],[])
def Abp:Ap:=Ao Ip (fun d=>(Fz d.1).val) Rr
theorem Aav:Fn Try.prog 3 .plain Abp:=C4 [(5,.plain,Aec),(6,.view,Qp),(7,.plain,Zn),(8,.plain,Ue),(9,.plain,Abj),(10,.plain,Abl),(11,.plain,Vz),(13,.plain,Rq),(12,.plain,Abo)] ⟨Ail,Xb,Afh,Zm,Ag8,Ag9,Adq,Aau,Ahb,trivial⟩ ⟨[(3,.v false [(.sl 5 [.int .u8],.rd)]),(4,.v false [(.int .i64,.nil)]),(5,.v false [(.int .i64,.nil)]),(10,.v false [(.sl 5 [.int .u8],.rd)]),(11,.v false [(.sl 42 h_3,(.own 14000000))]),(12,.box 12 0),(16,.v false [(.sl 22 [.sl 5 [.int .u8]],(.row 14000001))]),(17,.v false [(.int .i64,.nil)])],[(12,[(.int .i64,.nil),(.int .i64,.nil),(.sl 5 [.int .u8],(.own 14000002)),(.sl 5 [.int .u8],(.own 14000003)),(.int .i64,.nil),(.sl 5 [.int .u8],(.own 14000004)),(.sl 5 [.int .u8],(.own 14000005)),(.int .i64,.nil),(.int .i64,.nil),(.sl 5 [.int .u8],(.own 14000006)),(.sl 5 [.int .u8],(.own 14000007))])],[14000000,14000001,14000002,14000003,14000004,14000005,14000006,14000007]⟩ 14000000 [((.exit 0),⟨[(3,.v false [(.sl 5 [.int .u8],.rd)]),(4,.v false [(.int .i64,.nil)]),(5,.v false [(.int .i64,.nil)]),(10,.v false [(.sl 5 [.int .u8],.rd)]),(11,.v false [(.sl 42 h_3,(.own 14000000))]),(12,.box 12 0),(16,.v false [(.sl 22 [.sl 5 [.int .u8]],(.row 14000001))])],[(12,[(.int .i64,.nil),(.int .i64,.nil),(.sl 5 [.int .u8],(.own 14000002)),(.sl 5 [.int .u8],(.own 14000003)),(.int .i64,.nil),(.sl 5 [.int .u8],(.own 14000004)),(.sl 5 [.int .u8],(.own 14000005)),(.int .i64,.nil),(.int .i64,.nil),(.sl 5 [.int .u8],(.own 14000006)),(.sl 5 [.int .u8],(.own 14000007))])],[14000000,14000001,14000002,14000003,14000004,14000005,14000006,14000007]⟩)] 13 Dg Try.func3 0
end
end Go.Proofs.Ytmhhajdeafijmaa

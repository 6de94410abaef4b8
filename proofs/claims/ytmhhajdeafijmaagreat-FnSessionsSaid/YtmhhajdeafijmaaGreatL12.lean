/-
  That the program and the reference answer alike, in plain terms, and that the laws answer true.
-/
import Derived.Test.YtmhhajdeafijmaaGreatL11
namespace Go.Proofs.YtmhhajdeafijmaaGreat
open Go.RowKit
set_option linter.unusedVariables false
set_option linter.unusedSimpArgs false
set_option maxRecDepth 100000
set_option maxHeartbeats 4000000
noncomputable section
theorem Aid (d:B5) (h:D9 d≤4294967296):Sv d=some d:=by
 simp only[D9]at h
 unfold Sv Z5
 simp only[Aj,Ac,List.length_nil,Nat.zero_add,List.nil_append]
 rw[Ak h];rfl
theorem Au8 (d:B5) (h:D9 d≤4294967296):Am0 d=some d:=Aid d h
theorem Al4 (d:YEp) (h:Bx d≤4294967296):Mq d=some d:=by
 simp only[Bx]at h
 unfold Mq Ade
 simp (disch:=first|omega|(dsimp only;omega)|(simp only[D9];omega)) only[Ai,Ac,Cu,Aid,Ag]
theorem Ae3 (d:YEp) (h:Bx d≤4294967296):V_s_l9Copy d=some d:=by
 simp only[Bx]at h
 unfold V_s_l9Copy T_s_l9Copy
 simp (disch:=first|omega|(dsimp only;omega)|(simp only[D9];omega)) only[Ai,Aj,Ac,Au8,Ag,List.length_nil,Nat.zero_add,List.nil_append,Ak,A8]
theorem A6s (d:YEp) (b:Bool×Unit) (h:Bx d≤4294967296):V_s_l14Ep d b=some d:=by
 have h':=h
 simp only[Bx]at h
 unfold V_s_l14Ep T_s_l14Ep
 simp (disch:=first|omega|(dsimp only;omega)) only[Ae,Ai,Aj,Ac,Ae3,Ag,List.length_nil,Nat.zero_add,List.nil_append,Ak,A8]
 cases b.1<;>rfl
theorem Ki (d:Al) (h:Av d≤4294967296):Fk d=some d:=by
 simp only[Av]at h
 unfold Fk V0
 simp (disch:=first|omega|(dsimp only;omega)|(simp only[Bx];omega)) only[Ai,Aj,Ac,Cu,Al4,Ag]
theorem Md (d:Al) (h:Av d≤4294967296):V_s_l14Copy d=some d:=by
 simp only[Av]at h
 unfold V_s_l14Copy T_s_l14Copy
 simp (disch:=first|omega|(dsimp only;omega)|(simp only[Bx];omega)) only[Ai,Aj,Ac,Ae3,A6s,Ag,List.length_nil,Nat.zero_add,List.nil_append,Ak,A8]
theorem Gb (d:Bb) (h:As d≤4294967296):De d=some d:=by
 obtain⟨a,b,l,⟨⟩⟩:=d
 simp only[As]at h
 have hl:=Cn (B:=Gp) l.length (fun i=>(l,(l.length:Int),(i:Int),(0:Int),(0:Int),([]:List Ap),a,b,l.take i,())) ((0:Int),(0:Int),([]:List Ap),a,b,l,())
  (fun i hi=>by
   have hx:=List.getElem?_eq_getElem hi
   have h2:=Ab7 (f:=D6) hx
   simp only[D6]at h2
   unfold Gp
   simp only[Ae,Ai,Ac,Aj,Ep hi,A0,Ca hx,Ag]
   rw[Cu _ zq2,Ag,Ak zq1,A8,w64 zq0]
   exact congrArg (fun t=>some (Sum.inl (l,(l.length:Int),(i:Int)+1,(0:Int),(0:Int),([]:List Ap),a,b,t,()))) (Fd hx))
  (by unfold Gp;simp only[Ae,Ac,Er,Am,List.take_length])
 unfold De T6
 simp only[Ai,Ac]
 rw[show Ay Gp (l,(l.length:Int),(0:Int),(0:Int),(0:Int),([]:List Ap),a,b,([]:List Ap),())=_ from hl]
 rfl
theorem Zc (d:Ap) (h:D6 d≤4294967296):Sr d=some d:=by
 simp only[D6]at h
 unfold Sr Z1
 simp only[Aj,Ac,List.length_nil,Nat.zero_add,List.nil_append]
 rw[Ak h];rfl
theorem O5 (d:Bb) (h:As d≤4294967296):D3 d=some d:=by
 obtain⟨a,b,l,⟨⟩⟩:=d
 simp only[As]at h
 have hl:=Cn (B:=Ia) l.length (fun i=>((i:Int),a,b,l,(0:Int),(0:Int),([]:List Ap),a,b,l.take i,())) ((0:Int),(0:Int),([]:List Ap),a,b,l,())
  (fun i hi=>by
   have hx:=List.getElem?_eq_getElem hi
   have h2:=Ab7 (f:=D6) hx
   unfold Ia
   simp only[Ae,Ai,Ac,Aj,Ep hi,A0,Ca hx,Ag]
   rw[Zc _ zq0,Ag,Ak zq1,A8,w64 zq0]
   exact congrArg (fun t=>some (Sum.inl ((i:Int)+1,a,b,l,(0:Int),(0:Int),([]:List Ap),a,b,t,()))) (Fd hx))
  (by unfold Ia;simp only[Ae,Ac,Er,Am,List.take_length])
 unfold D3 Z2
 simp only[Ai,Ac]
 rw[show Ay Ia ((0:Int),a,b,l,(0:Int),(0:Int),([]:List Ap),a,b,([]:List Ap),())=_ from hl]
 rfl
theorem Aok (d:Bp) (h:Br d≤4294967296):V3 d=some d:=by
 simp only[Br]at h
 unfold V3 V2
 simp (disch:=first|omega|(dsimp only;omega)|(simp only[Av];omega)|(simp only[As];omega)) only[Ai,Aj,Ac,Cu,Ki,Gb,Ag]
theorem A23 (d:Bp) (h:Br d≤4294967296):V_s_l20Copy d=some d:=by
 simp only[Br]at h
 unfold V_s_l20Copy T_s_l20Copy
 simp (disch:=first|omega|(dsimp only;omega)|(simp only[Av];omega)|(simp only[As];omega)) only[Ai,Aj,Ac,Md,O5,Ag,List.length_nil,Nat.zero_add,List.nil_append,Ak,A8]
def M0 (b:YBs):Bool:=inR (b.1.length:Int) 1 32
theorem A6t (b:YBs):V_i_PskOk b=some (M0 b,()):=by
 unfold V_i_PskOk T_i_PskOk
 simp only[Ai,Ac,Ch,Ag];rfl
theorem Ajg (b:YBs):Ov b=some (M0 b,()):=by
 unfold Ov Agp
 simp only[Ai,Ac,Cw,Ag];rfl
end
end Go.Proofs.YtmhhajdeafijmaaGreat

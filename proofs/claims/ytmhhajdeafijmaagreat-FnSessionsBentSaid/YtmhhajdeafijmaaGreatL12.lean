/-
  That the program and the reference answer alike, in plain terms, and that the laws answer true.
-/
import Derived.Test.YtmhhajdeafijmaaGreatL11
namespace Go.Proofs.YtmhhajdeafijmaaGreat
open Go.RowKit
set_option linter.unusedVariables false
set_option linter.unusedSimpArgs false
set_option maxRecDepth 100000
set_option maxHeartbeats 4000000
noncomputable section
theorem Ajx (d:Bv) (h:D7 d≤4294967296):Sb d=some d:=by
 simp only[D7]at h
 unfold Sb Z8
 simp only[An,Ac,List.length_nil,Nat.zero_add,List.nil_append]
 rw[Al h];rfl
theorem Axf (d:Bv) (h:D7 d≤4294967296):Ada d=some d:=Ajx d h
theorem An4 (d:YEp) (h:Bs d≤4294967296):Mg d=some d:=by
 simp only[Bs]at h
 unfold Mg Adz
 simp (disch:=first|omega|(dsimp only;omega)|(simp only[D7];omega)) only[Ah,Ac,Dc,Ajx,Ai]
theorem Afy (d:YEp) (h:Bs d≤4294967296):Me d=some d:=by
 simp only[Bs]at h
 unfold Me Adn
 simp (disch:=first|omega|(dsimp only;omega)|(simp only[D7];omega)) only[Ah,An,Ac,Axf,Ai,List.length_nil,Nat.zero_add,List.nil_append,Al,A5]
theorem A8w (d:YEp) (b:Bool×Unit) (h:Bs d≤4294967296):Aib d b=some d:=by
 have h':=h
 simp only[Bs]at h
 unfold Aib Aia
 simp (disch:=first|omega|(dsimp only;omega)) only[Af,Ah,An,Ac,Afy,Ai,List.length_nil,Nat.zero_add,List.nil_append,Al,A5]
 cases b.1<;>rfl
theorem Mu (d:Aj) (h:Ax d≤4294967296):E9 d=some d:=by
 simp only[Ax]at h
 unfold E9 Vw
 simp (disch:=first|omega|(dsimp only;omega)|(simp only[Bs];omega)) only[Ah,An,Ac,Dc,An4,Ai]
theorem Lz (d:Aj) (h:Ax d≤4294967296):Fy d=some d:=by
 simp only[Ax]at h
 unfold Fy Z4
 simp (disch:=first|omega|(dsimp only;omega)|(simp only[Bs];omega)) only[Ah,An,Ac,Afy,A8w,Ai,List.length_nil,Nat.zero_add,List.nil_append,Al,A5]
theorem Ss (d:A7) (h:A0 d≤4294967296):Dk d=some d:=by
 obtain⟨a,b,l,⟨⟩⟩:=d
 simp only[A0]at h
 have hl:=Cj (B:=Gd) l.length (fun i=>(l,(l.length:Int),(i:Int),(0:Int),(0:Int),([]:List Am),a,b,l.take i,())) ((0:Int),(0:Int),([]:List Am),a,b,l,())
  (fun i hi=>by
   have hx:=List.getElem?_eq_getElem hi
   have h2:=Aci (f:=Cf) hx
   simp only[Cf]at h2
   unfold Gd
   simp only[Af,Ah,Ac,An,En hi,Az,Ce hx,Ai]
   rw[Dc _ zq2,Ai,Al zq1,A5,w64 zq0]
   exact congrArg (fun t=>some (Sum.inl (l,(l.length:Int),(i:Int)+1,(0:Int),(0:Int),([]:List Am),a,b,t,()))) (Ey hx))
  (by unfold Gd;simp only[Af,Ac,Eo,Ap,List.take_length])
 unfold Dk Tz
 simp only[Ah,Ac]
 rw[show Ay Gd (l,(l.length:Int),(0:Int),(0:Int),(0:Int),([]:List Am),a,b,([]:List Am),())=_ from hl]
 rfl
theorem X7 (d:Am) (h:Cf d≤4294967296):Ko d=some d:=by
 simp only[Cf]at h
 unfold Ko Zy
 simp only[An,Ac,List.length_nil,Nat.zero_add,List.nil_append]
 rw[Al h];rfl
theorem Ov (d:A7) (h:A0 d≤4294967296):Ct d=some d:=by
 obtain⟨a,b,l,⟨⟩⟩:=d
 simp only[A0]at h
 have hl:=Cj (B:=H0) l.length (fun i=>((i:Int),a,b,l,(0:Int),(0:Int),([]:List Am),a,b,l.take i,())) ((0:Int),(0:Int),([]:List Am),a,b,l,())
  (fun i hi=>by
   have hx:=List.getElem?_eq_getElem hi
   have h2:=Aci (f:=Cf) hx
   unfold H0
   simp only[Af,Ah,Ac,An,En hi,Az,Ce hx,Ai]
   rw[X7 _ zq0,Ai,Al zq1,A5,w64 zq0]
   exact congrArg (fun t=>some (Sum.inl ((i:Int)+1,a,b,l,(0:Int),(0:Int),([]:List Am),a,b,t,()))) (Ey hx))
  (by unfold H0;simp only[Af,Ac,Eo,Ap,List.take_length])
 unfold Ct Zz
 simp only[Ah,Ac]
 rw[show Ay H0 ((0:Int),a,b,l,(0:Int),(0:Int),([]:List Am),a,b,([]:List Am),())=_ from hl]
 rfl
theorem Qr (d:A4) (h:Bm d≤4294967296):I7 d=some d:=by
 simp only[Bm]at h
 unfold I7 Vx
 simp (disch:=first|omega|(dsimp only;omega)|(simp only[Ax];omega)|(simp only[A0];omega)) only[Ah,An,Ac,Dc,Mu,Ss,Ai]
theorem At4 (d:A4) (h:Bm d≤4294967296):Sa d=some d:=by
 simp only[Bm]at h
 unfold Sa Z5
 simp (disch:=first|omega|(dsimp only;omega)|(simp only[Ax];omega)|(simp only[A0];omega)) only[Ah,An,Ac,Lz,Ov,Ai,List.length_nil,Nat.zero_add,List.nil_append,Al,A5]
def Avt (b:YBs):Bool:=inR (b.1.length:Int) 1 32
theorem Asm (b:YBs):Ol b=some (Avt b,()):=by
 unfold Ol Ahr
 simp only[Ah,Ac,C4,Ai];rfl
end
end Go.Proofs.YtmhhajdeafijmaaGreat

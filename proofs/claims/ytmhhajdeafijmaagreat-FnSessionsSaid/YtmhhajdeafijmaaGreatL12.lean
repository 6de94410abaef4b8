/-
  That the program and the reference answer alike, in plain terms, and that the laws answer true.
-/
import Derived.Test.YtmhhajdeafijmaaGreatL11
namespace Go.Proofs.YtmhhajdeafijmaaGreat
open Go.RowKit
set_option linter.unusedVariables false
set_option linter.unusedSimpArgs false
set_option maxRecDepth 100000
set_option maxHeartbeats 4000000
noncomputable section
theorem Ajo (d:B8) (h:Ed d≤4294967296):To d=some d:=by
 simp only[Ed]at h
 unfold To Aaz
 simp only[Ak,Ac,List.length_nil,Nat.zero_add,List.nil_append]
 rw[Am h];rfl
theorem Axc (d:B8) (h:Ed d≤4294967296):Afc d=some d:=Ajo d h
theorem Anu (d:YEp) (h:B5 d≤4294967296):Nc d=some d:=by
 simp only[B5]at h
 unfold Nc Aec
 simp (disch:=first|omega|(dsimp only;omega)|(simp only[Ed];omega)) only[Ai,Ac,Cw,Ajo,Ag]
theorem Af3 (d:YEp) (h:B5 d≤4294967296):Nh d=some d:=by
 simp only[B5]at h
 unfold Nh Apz
 simp (disch:=first|omega|(dsimp only;omega)|(simp only[Ed];omega)) only[Ai,Ak,Ac,Axc,Ag,List.length_nil,Nat.zero_add,List.nil_append,Am,Ba]
theorem A8y (d:YEp) (b:Bool×Unit) (h:B5 d≤4294967296):Aja d b=some d:=by
 have h':=h
 simp only[B5]at h
 unfold Aja Atu
 simp (disch:=first|omega|(dsimp only;omega)) only[Ae,Ai,Ak,Ac,Af3,Ag,List.length_nil,Nat.zero_add,List.nil_append,Am,Ba]
 cases b.1<;>rfl
theorem Kt (d:Aj) (h:Av d≤4294967296):Fo d=some d:=by
 simp only[Av]at h
 unfold Fo Wo
 simp (disch:=first|omega|(dsimp only;omega)|(simp only[B5];omega)) only[Ai,Ak,Ac,Cw,Anu,Ag]
theorem Ms (d:Aj) (h:Av d≤4294967296):Gd d=some d:=by
 simp only[Av]at h
 unfold Gd Al5
 simp (disch:=first|omega|(dsimp only;omega)|(simp only[B5];omega)) only[Ai,Ak,Ac,Af3,A8y,Ag,List.length_nil,Nat.zero_add,List.nil_append,Am,Ba]
theorem Ge (d:A9) (h:Au d≤4294967296):Di d=some d:=by
 obtain⟨a,b,l,⟨⟩⟩:=d
 simp only[Au]at h
 have hl:=Cp (B:=Gs) l.length (fun i=>(l,(l.length:Int),(i:Int),(0:Int),(0:Int),([]:List Al),a,b,l.take i,())) ((0:Int),(0:Int),([]:List Al),a,b,l,())
  (fun i hi=>by
   have hx:=List.getElem?_eq_getElem hi
   have h2:=Ac5 (f:=Ea) hx
   simp only[Ea]at h2
   unfold Gs
   simp only[Ae,Ai,Ac,Ak,Et hi,A0,Cb hx,Ag]
   rw[Cw _ zq2,Ag,Am zq1,Ba,w64 zq0]
   exact congrArg (fun t=>some (Sum.inl (l,(l.length:Int),(i:Int)+1,(0:Int),(0:Int),([]:List Al),a,b,t,()))) (Fe hx))
  (by unfold Gs;simp only[Ae,Ac,Eu,An,List.take_length])
 unfold Di Up
 simp only[Ai,Ac]
 rw[show Ay Gs (l,(l.length:Int),(0:Int),(0:Int),(0:Int),([]:List Al),a,b,([]:List Al),())=_ from hl]
 rfl
theorem Z0 (d:Al) (h:Ea d≤4294967296):Ln d=some d:=by
 simp only[Ea]at h
 unfold Ln Aau
 simp only[Ak,Ac,List.length_nil,Nat.zero_add,List.nil_append]
 rw[Am h];rfl
theorem Po (d:A9) (h:Au d≤4294967296):C5 d=some d:=by
 obtain⟨a,b,l,⟨⟩⟩:=d
 simp only[Au]at h
 have hl:=Cp (B:=Ih) l.length (fun i=>((i:Int),a,b,l,(0:Int),(0:Int),([]:List Al),a,b,l.take i,())) ((0:Int),(0:Int),([]:List Al),a,b,l,())
  (fun i hi=>by
   have hx:=List.getElem?_eq_getElem hi
   have h2:=Ac5 (f:=Ea) hx
   unfold Ih
   simp only[Ae,Ai,Ac,Ak,Et hi,A0,Cb hx,Ag]
   rw[Z0 _ zq0,Ag,Am zq1,Ba,w64 zq0]
   exact congrArg (fun t=>some (Sum.inl ((i:Int)+1,a,b,l,(0:Int),(0:Int),([]:List Al),a,b,t,()))) (Fe hx))
  (by unfold Ih;simp only[Ae,Ac,Eu,An,List.take_length])
 unfold C5 Aaw
 simp only[Ai,Ac]
 rw[show Ay Ih ((0:Int),a,b,l,(0:Int),(0:Int),([]:List Al),a,b,([]:List Al),())=_ from hl]
 rfl
theorem Aqh (d:Bd) (h:Bw d≤4294967296):Xa d=some d:=by
 simp only[Bw]at h
 unfold Xa Wp
 simp (disch:=first|omega|(dsimp only;omega)|(simp only[Av];omega)|(simp only[Au];omega)) only[Ai,Ak,Ac,Cw,Kt,Ge,Ag]
theorem A49 (d:Bd) (h:Bw d≤4294967296):Abm d=some d:=by
 simp only[Bw]at h
 unfold Abm Amd
 simp (disch:=first|omega|(dsimp only;omega)|(simp only[Av];omega)|(simp only[Au];omega)) only[Ai,Ak,Ac,Ms,Po,Ag,List.length_nil,Nat.zero_add,List.nil_append,Am,Ba]
def Nl (b:YBs):Bool:=inR (b.1.length:Int) 1 32
theorem A8z (b:YBs):Ajc b=some (Nl b,()):=by
 unfold Ajc Atv
 simp only[Ai,Ac,Cj,Ag];rfl
theorem Akr (b:YBs):Pm b=some (Nl b,()):=by
 unfold Pm Ahs
 simp only[Ai,Ac,Cz,Ag];rfl
end
end Go.Proofs.YtmhhajdeafijmaaGreat

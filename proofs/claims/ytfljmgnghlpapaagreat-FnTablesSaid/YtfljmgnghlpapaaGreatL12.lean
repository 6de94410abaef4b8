/-
  That the program and the reference answer alike, in plain terms, and that the laws answer true.
-/
import Derived.Test.YtfljmgnghlpapaaGreatL10
namespace Go.Proofs.YtfljmgnghlpapaaGreat
open Go.RowKit
set_option linter.unusedVariables false
set_option linter.unusedSimpArgs false
set_option maxRecDepth 100000
set_option maxHeartbeats 4000000
noncomputable section
theorem Ala (d:Bs) (h:Dz d≤4294967296):U3 d=some d:=by
 simp only[Dz]at h
 unfold U3 Up
 simp only[Am,Ab,List.length_nil,Nat.zero_add,List.nil_append]
 rw[Ao h];rfl
theorem An6 (d:Bs) (h:Dz d≤4294967296):Xr d=some d:=Ala d h
theorem Awq (d:YEp) (h:Dj d≤4294967296):P3 d=some d:=by
 simp only[Dj]at h
 unfold P3 W8
 simp (disch:=first|omega|(dsimp only;omega)|(simp only[Dz];omega)) only[Ai,Ab,Lc,Ala,Ak]
theorem An7 (d:YEp) (h:Dj d≤4294967296):P1 d=some d:=by
 simp only[Dj]at h
 unfold P1 Ww
 simp (disch:=first|omega|(dsimp only;omega)|(simp only[Dz];omega)) only[Ai,Am,Ab,An6,Ak,List.length_nil,Nat.zero_add,List.nil_append,Ao,Bd]
theorem Ayn (d:YEp) (b:Bool×Unit) (h:Dj d≤4294967296):Acd d b=some d:=by
 have h':=h
 simp only[Dj]at h
 unfold Acd Abm
 simp (disch:=first|omega|(dsimp only;omega)) only[Ah,Ai,Am,Ab,An7,Ak,List.length_nil,Nat.zero_add,List.nil_append,Ao,Bd]
 cases b.1<;>rfl
theorem Ah4 (d:Bl) (h:Bf d≤4294967296):Ma d=some d:=by
 simp only[Bf]at h
 unfold Ma Qz
 simp (disch:=first|omega|(dsimp only;omega)|(simp only[Dj];omega)) only[Ai,Am,Ab,Lc,Awq,Ak]
theorem Au2 (d:Bl) (h:Bf d≤4294967296):U1 d=some d:=by
 simp only[Bf]at h
 unfold U1 Ud
 simp (disch:=first|omega|(dsimp only;omega)|(simp only[Dj];omega)) only[Ai,Am,Ab,An7,Ayn,Ak,List.length_nil,Nat.zero_add,List.nil_append,Ao,Bd]
theorem Ob (d:A4) (h:Av d≤4294967296):Cj d=some d:=by
 obtain⟨a,b,l,⟨⟩⟩:=d
 simp only[Av]at h
 have hl:=Co (B:=E6) l.length (fun i=>(l,(l.length:Int),(i:Int),(0:Int),(0:Int),([]:List Aj),a,b,l.take i,())) ((0:Int),(0:Int),([]:List Aj),a,b,l,())
  (fun i hi=>by
   have hx:=List.getElem?_eq_getElem hi
   have h2:=Ia (f:=Ck) hx
   simp only[Ck]at h2
   unfold E6
   simp only[Ah,Ai,Ab,Am,Db hi,A9,B7 hx,Ak]
   rw[Lc _ zq2,Ak,Ao zq1,Bd,w64 zq0]
   exact congrArg (fun t=>some (Sum.inl (l,(l.length:Int),(i:Int)+1,(0:Int),(0:Int),([]:List Aj),a,b,t,()))) (Ew hx))
  (by unfold E6;simp only[Ah,Ab,Dc,A1,List.take_length])
 unfold Cj Pc
 simp only[Ai,Ab]
 rw[show As E6 (l,(l.length:Int),(0:Int),(0:Int),(0:Int),([]:List Aj),a,b,([]:List Aj),())=_ from hl]
 rfl
theorem Alb (d:Aj) (h:Ck d≤4294967296):Oa d=some d:=by
 simp only[Ck]at h
 unfold Oa T8
 simp only[Am,Ab,List.length_nil,Nat.zero_add,List.nil_append]
 rw[Ao h];rfl
theorem Ou (d:A4) (h:Av d≤4294967296):Ct d=some d:=by
 obtain⟨a,b,l,⟨⟩⟩:=d
 simp only[Av]at h
 have hl:=Co (B:=F3) l.length (fun i=>((i:Int),a,b,l,(0:Int),(0:Int),([]:List Aj),a,b,l.take i,())) ((0:Int),(0:Int),([]:List Aj),a,b,l,())
  (fun i hi=>by
   have hx:=List.getElem?_eq_getElem hi
   have h2:=Ia (f:=Ck) hx
   unfold F3
   simp only[Ah,Ai,Ab,Am,Db hi,A9,B7 hx,Ak]
   rw[Alb _ zq0,Ak,Ao zq1,Bd,w64 zq0]
   exact congrArg (fun t=>some (Sum.inl ((i:Int)+1,a,b,l,(0:Int),(0:Int),([]:List Aj),a,b,t,()))) (Ew hx))
  (by unfold F3;simp only[Ah,Ab,Dc,A1,List.take_length])
 unfold Ct T9
 simp only[Ai,Ab]
 rw[show As F3 ((0:Int),a,b,l,(0:Int),(0:Int),([]:List Aj),a,b,([]:List Aj),())=_ from hl]
 rfl
theorem Jk (d:Af) (h:Az d≤4294967296):Fu d=some d:=by
 simp only[Az]at h
 unfold Fu Q0
 simp (disch:=first|omega|(dsimp only;omega)|(simp only[Bf];omega)|(simp only[Av];omega)) only[Ai,Am,Ab,Lc,Ah4,Ob,Ak]
theorem Tb (d:Af) (h:Az d≤4294967296):H7 d=some d:=by
 simp only[Az]at h
 unfold H7 Ue
 simp (disch:=first|omega|(dsimp only;omega)|(simp only[Bf];omega)|(simp only[Av];omega)) only[Ai,Am,Ab,Au2,Ou,Ak,List.length_nil,Nat.zero_add,List.nil_append,Ao,Bd]
theorem Ov (d:A7) (h:A3 d≤4294967296):Gu d=some d:=by
 obtain⟨c,l,⟨⟩⟩:=d
 simp only[A3]at h
 have hl:=Co (B:=F5) l.length (fun i=>(l,(l.length:Int),(i:Int),(0:Int),([]:List Af),c,l.take i,())) ((0:Int),([]:List Af),c,l,())
  (fun i hi=>by
   have hx:=List.getElem?_eq_getElem hi
   have h2:=Ia (f:=Az) hx
   unfold F5
   simp only[Ah,Ai,Ab,Am,Db hi,A9,B7 hx,Ak]
   rw[Jk _ zq0,Ak,Ao zq1,Bd,w64 zq0]
   exact congrArg (fun t=>some (Sum.inl (l,(l.length:Int),(i:Int)+1,(0:Int),([]:List Af),c,t,()))) (Ew hx))
  (by unfold F5;simp only[Ah,Ab,Dc,A1,List.take_length])
 unfold Gu Uq
 simp only[Ai,Ab]
 rw[show As F5 (l,(l.length:Int),(0:Int),(0:Int),([]:List Af),c,([]:List Af),())=_ from hl]
 rfl
theorem Alc (d:A7) (h:A3 d≤4294967296):J8 d=some d:=by
 obtain⟨c,l,⟨⟩⟩:=d
 simp only[A3]at h
 have hl:=Co (B:=F4) l.length (fun i=>((i:Int),c,l,(0:Int),([]:List Af),c,l.take i,())) ((0:Int),([]:List Af),c,l,())
  (fun i hi=>by
   have hx:=List.getElem?_eq_getElem hi
   have h2:=Ia (f:=Az) hx
   unfold F4
   simp only[Ah,Ai,Ab,Am,Db hi,A9,B7 hx,Ak]
   rw[Tb _ zq0,Ak,Ao zq1,Bd,w64 zq0]
   exact congrArg (fun t=>some (Sum.inl ((i:Int)+1,c,l,(0:Int),([]:List Af),c,t,()))) (Ew hx))
  (by unfold F4;simp only[Ah,Ab,Dc,A1,List.take_length])
 unfold J8 Ug
 simp only[Ai,Ab]
 rw[show As F4 ((0:Int),c,l,(0:Int),([]:List Af),c,([]:List Af),())=_ from hl]
 rfl
def Amx (b:YBs):Bool:=inR (b.1.length:Int) 1 32
theorem Ajn (b:YBs):K9 b=some (Amx b,()):=by
 unfold K9 Aas
 simp only[Ai,Ab,Dd,Ak];rfl
end
end Go.Proofs.YtfljmgnghlpapaaGreat

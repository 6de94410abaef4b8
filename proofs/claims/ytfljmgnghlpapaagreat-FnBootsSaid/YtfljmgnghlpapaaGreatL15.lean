/-
  That the program and the reference answer alike, in plain terms, and that the laws answer true.
-/
import Derived.Test.YtfljmgnghlpapaaGreatL14
namespace Go.Proofs.YtfljmgnghlpapaaGreat
open Go.RowKit
set_option linter.unusedVariables false
set_option linter.unusedSimpArgs false
set_option maxRecDepth 100000
set_option maxHeartbeats 4000000
noncomputable section
def Aan:List YB:=[((114:Int),()),((111:Int),()),((108:Int),()),((108:Int),())]
def Mc (s:List YB) (n:Int):List YB:=if inR (s.length:Int) 1 32=true∧inR n 0 10000=true then(Fd s (Aan++Eu n 4 4)).take 12 else []
theorem A8k (s:List YB) (n:Int):(Mc s n).length≤12:=by
 unfold Mc
 split
 ·simp;omega
 ·simp
theorem Bdi (s:List YB) (n:Int):Ahn (s,()) (n,())=some (Mc s n,()):=by
 unfold Ahn Agr Mc
 simp only[Ac,Ae,Ab,Al,Bw,Ai]
 cases h1:inR (s.length:Int) 1 32 with
 |false=>rw[if_neg zq3];rfl
 |true=>
  cases inR n 0 10000 with
  |false=>rw[if_neg zq3];rfl
  |true=>
   have:=Cu.1 h1
   have h32:(Fd s (Aan++Eu n 4 4)).length=32:=Rz _ _ zq0 (by simp[E7,Aan])
   simp only[Bool.not_true,Au]
   rw[Anz _ _ zq3,Ai,A2f,Ai,if_pos ⟨trivial,trivial⟩,show([((114:Int),()),((111:Int),()),((108:Int),()),((108:Int),())]:List YB)=Aan from rfl]
   rw[An zq2,A8,show(12:Int).toNat=12 from rfl,show(0:Int).toNat=0 from rfl,List.drop_zero,Dv _ zq1]
   rfl
theorem Bdj (s:List YB) (n:Int):Ag4 (s,()) (n,())=some (Mc s n,()):=by
 unfold Ag4 Ae4 Mc
 simp only[Ac,Ae,Ab,Al,Df,Ai,List.length_nil,Nat.zero_add,List.nil_append]
 cases h1:inR (s.length:Int) 1 32 with
 |false=>rw[if_neg zq3];rfl
 |true=>
  cases inR n 0 10000 with
  |false=>rw[if_neg zq3];rfl
  |true=>
   have:=Cu.1 h1
   have h32:(Fd s (Aan++Eu n 4 4)).length=32:=Rz _ _ zq0 (by simp[E7,Aan])
   simp only[Bool.not_true,Au]
   rw[Rw _ _ zq3,Ai,Amt,Ai,if_pos ⟨trivial,trivial⟩,show([((114:Int),()),((111:Int),()),((108:Int),()),((108:Int),())]:List YB)=Aan from rfl]
   rw[An zq2,A8,show(12:Int).toNat=12 from rfl,show(0:Int).toNat=0 from rfl,List.drop_zero,An zq1,A8]
theorem Ayh (d:Eh) (h:d.1.length≤4294967296):Su d=some d:=by
 unfold Su Aa7
 simp only[Al,Ab,List.length_nil,Nat.zero_add,List.nil_append]
 rw[An h];rfl
def Ge (d:Eh):Eh×List YB:=if Hx d=true∧d.2.1≠10000 then((d.1,d.2.1+1,()),Mc d.1 d.2.1)else(d,[])
theorem A2p (d:Eh):(Ge d).1.1=d.1:=by unfold Ge;split<;>rfl
theorem Bdk (d:Eh):(Ge d).2.length≤12:=by
 unfold Ge
 split
 ·exact A8k _ _
 ·simp
theorem Ba9 (d:Eh) (h:d.1.length≤4294967296):Aq8 d=some ((Ge d).1,((Ge d).2,())):=by
 unfold Aq8 Aqs Ge
 simp only[Ac,Ae,Ab,A2i,Bdi]
 rw[Dv _ h]
 simp only[Ai]
 cases hd:Hx d with
 |false=>rw[if_neg zq3];rfl
 |true=>
  simp only[Bool.not_true,Au]
  by_cases h1:d.2.1=10000
  ·rw[Fu (by simp[h1]),if_neg (fun h=>h.2 h1)]
  ·have:=Cu.1 (show inR d.2.1 0 10000=true by unfold Hx at hd;simp only[Bool.and_eq_true]at hd;exact hd.2)
   rw[Em (by simp[h1]),if_pos ⟨trivial,h1⟩,w64 zq0]
theorem Bba (d:Eh) (h:d.1.length≤4294967296):Ag5 d=some ((Ge d).1,((Ge d).2,())):=by
 unfold Ag5 Aqd Ge
 simp only[Ac,Ae,Ab,A2j,Bdj]
 rw[Ayh _ h]
 simp only[Ai]
 cases hd:Hx d with
 |false=>rw[if_neg zq3];rfl
 |true=>
  simp only[Bool.not_true,Au]
  by_cases h1:d.2.1=10000
  ·rw[Fu (by simp[h1]),if_neg (fun h=>h.2 h1)]
  ·have:=Cu.1 (show inR d.2.1 0 10000=true by unfold Hx at hd;simp only[Bool.and_eq_true]at hd;exact hd.2)
   rw[Em (by simp[h1]),if_pos ⟨trivial,h1⟩,w64 zq0]
def N5 (r:List YB):List YB:=if r.length=12 then Jl r (Eg (Bq [106,97,114]))else []
theorem Ah8 (r:List YB):(N5 r).length≤32:=by
 unfold N5
 split
 ·have:=Ah6 r (Eg (Bq [106,97,114]));omega
 ·simp
theorem A2q (r:List YB):Ahq (r,())=some (N5 r,()):=by
 unfold Ahq Agu N5
 simp only[Ac,Ae,Ab,L8,Ai]
 rw[Bdf _ _ zq4]
 by_cases h:r.length=12
 ·rw[if_pos h,Em (by simp[h])];rfl
 ·rw[if_neg h,Fu zq1]
theorem Arf (r:List YB):Mx (r,())=some (N5 r,()):=by
 unfold Mx Ae7 N5
 simp only[Ac,Ae,Ab]
 rw[Ah7 _ _ zq4]
 by_cases h:r.length=12
 ·rw[if_pos h,Em (by simp[h])];rfl
 ·rw[if_neg h,Fu zq1]
theorem A8l (l:List YBs) (h:l.length+Co Ik l≤4294967296):Xn (l,())=some (l,()):=by
 have hl:=B8 (B:=Hj) l.length (fun i=>(l.take i,l,(l.length:Int),(i:Int),())) (l,())
  (fun i hi=>by
   have hx:=List.getElem?_eq_getElem hi
   have h2:=Fb (f:=Ik) hx
   simp only[Ik]at h2
   unfold Hj
   simp only[Ac,Ae,Ab,Al,By hi,A4,Bk hx,Ai]
   rw[Dv _ zq0,Ai,An zq1,A8,w64 zq0]
   exact congrArg (fun t=>some (Sum.inl (t,l,(l.length:Int),(i:Int)+1,()))) (Dg hx))
  (by unfold Hj;simp only[Ac,Ab,Bz,Au,List.take_length])
 unfold Xn Wo
 simp only[Ae,Ab]
 rw[show As Hj ([],l,(l.length:Int),(0:Int),())=_ from hl]
 rfl
theorem Bbb (l:List YBs) (h:l.length+Co Ik l≤4294967296) (j sd:List YB) (n c:Int) (ss:List Ad):
  As Gl (l,(0:Int),[],[],[],(0:Int),(0:Int),[],[],[],j,sd,n,c,ss,[],())=some ([],[],[],(0:Int),(0:Int),[],[],l,j,sd,n,c,ss,[],()):=by
 have hl:=B8 (B:=Gl) l.length (fun i=>(l,(i:Int),[],[],[],(0:Int),(0:Int),[],[],l.take i,j,sd,n,c,ss,[],())) ([],[],[],(0:Int),(0:Int),[],[],l,j,sd,n,c,ss,[],())
  (fun i hi=>by
   have hx:=List.getElem?_eq_getElem hi
   have h2:=Fb (f:=Ik) hx
   simp only[Ik]at h2
   unfold Gl
   simp only[Ac,Ae,Ab,Al,By hi,A4,Bk hx,Ai,List.length_nil,Nat.zero_add,List.nil_append]
   rw[An zq0,A8,An zq1,A8,w64 zq0]
   exact congrArg (fun t=>some (Sum.inl (l,(i:Int)+1,[],[],[],(0:Int),(0:Int),[],[],t,j,sd,n,c,ss,[],()))) (Dg hx))
  (by unfold Gl;simp only[Ac,Ab,Bz,Au,List.take_length])
 exact hl
end
end Go.Proofs.YtfljmgnghlpapaaGreat

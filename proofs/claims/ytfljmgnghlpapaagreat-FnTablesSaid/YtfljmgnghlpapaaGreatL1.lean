/-
  That the program and the reference answer alike, in plain terms, and that the laws answer true.
-/
import Derived.Test.YtfljmgnghlpapaaGreatH
namespace Go.Proofs.YtfljmgnghlpapaaGreat
open Go.RowKit
set_option linter.unusedVariables false
set_option linter.unusedSimpArgs false
set_option maxHeartbeats 4000000
noncomputable section
def inR (n lo hi:Int):Bool:=decide (lo≤n) && decide (n≤hi)
theorem D0 (n lo hi:YI):Bt n lo hi=some (inR n.1 lo.1 hi.1,()):=by
 unfold Bt W9 inR
 simp only[Ah,Ab,Ass]
 split<;>rename_i h<;>simp at h<;>simp[h]
 all_goals omega
theorem Dd (n lo hi:YI):Bc n lo hi=some (inR n.1 lo.1 hi.1,()):=by
 unfold Bc Afb inR
 simp only[Ah,Ab,Ass]
 split<;>rename_i h<;>simp at h<;>simp[h]
 all_goals omega
def D7 (a b:List YB):Bool:=decide (Kz a=Kz b)
theorem Ant (a b:YBs):Xu a b=some (D7 a.1 b.1,()):=rfl
theorem U7 (a b:YBs):Kq a b=some (D7 a.1 b.1,()):=rfl
theorem Auo (n:YI): ∃r,Ahr n=some r∧Py n=some r∧A3 r=0:=by
 unfold Ahr Ahq Py Wa
 simp only[Ai,Ah,Ab,D0,Dd,Ak]
 cases inR n.1 1 6
 ·exact⟨_,rfl,rfl,rfl⟩
 ·exact⟨_,rfl,rfl,rfl⟩
theorem Arg (t:A7) (h:t.2.1.length≤4294967296): ∃r,Aq t=some r∧Rk t=some r:=by
 obtain⟨cap,l,_⟩:=t
 simp only at h
 obtain⟨o1,o2,h1,h2,hq⟩:=Rr (B1:=Ff) (B2:=Ls)
  (fun i d1 d2=>∃n:Int,0≤n∧n≤i∧d1=(n,l,(l.length:Int),(i:Int),())∧d2=(n,(i:Int),cap,l,())) (fun o1 o2=>o1=o2) l.length
  (by
   rintro i d1 d2 hi ⟨n,h0,h1,rfl,rfl⟩
   have hx:=List.getElem?_eq_getElem hi
   left
   unfold Ff Ls
   simp (disch:=omega) only[Ah,Ai,Ab,Db hi,A9,B7 hx,Ak,w64]
   simp only[Ass]
   split
   ·exact⟨_,_,rfl,rfl,n+1,by omega,by omega,rfl,rfl⟩
   ·exact⟨_,_,rfl,rfl,n,by omega,by omega,rfl,rfl⟩)
  (by
   rintro d1 d2 ⟨n,h0,h1,rfl,rfl⟩
   unfold Ff Ls
   simp only[Ah,Ai,Ab,Dc,A1]
   exact⟨_,_,rfl,rfl,rfl⟩)
  (d1:=((0:Int),l,(l.length:Int),(0:Int),())) (d2:=((0:Int),(0:Int),cap,l,())) ⟨0,by omega,by omega,rfl,rfl⟩
 subst hq
 refine⟨(o1.1,()),?_,?_⟩
 ·unfold Aq Xb
  simp only[Ai,Ab,h1,Ak]
 ·unfold Rk Afi
  simp only[Ai,Ab,h2,Ak]
end
end Go.Proofs.YtfljmgnghlpapaaGreat

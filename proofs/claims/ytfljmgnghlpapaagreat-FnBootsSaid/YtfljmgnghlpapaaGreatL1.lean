/-
  That the program and the reference answer alike, in plain terms, and that the laws answer true.
-/
import Derived.Test.YtfljmgnghlpapaaGreatH
namespace Go.Proofs.YtfljmgnghlpapaaGreat
open Go.RowKit
set_option linter.unusedVariables false
set_option linter.unusedSimpArgs false
set_option maxHeartbeats 4000000
noncomputable section
def inR (n lo hi:Int):Bool:=decide (lo≤n) && decide (n≤hi)
theorem Bw (n lo hi:YI):A0 n lo hi=some (inR n.1 lo.1 hi.1,()):=by
 unfold A0 Af7 inR
 simp only[Ac,Ab,A74]
 split<;>rename_i h<;>simp at h<;>simp[h]
 all_goals omega
theorem Df (n lo hi:YI):Bc n lo hi=some (inR n.1 lo.1 hi.1,()):=by
 unfold Bc Ap6 inR
 simp only[Ac,Ab,A74]
 split<;>rename_i h<;>simp at h<;>simp[h]
 all_goals omega
def Ds (a b:List YB):Bool:=decide (Ov a=Ov b)
theorem A11 (a b:YBs):Ag8 a b=some (Ds a.1 b.1,()):=rfl
theorem N4 (a b:YBs):Dc a b=some (Ds a.1 b.1,()):=rfl
theorem Amm (n:YI): ∃r,Qk n=some r∧My n=some r∧Bg r=0:=by
 unfold Qk Vf My Ae8
 simp only[Ae,Ac,Ab,Bw,Df,Ai]
 cases inR n.1 1 6
 ·exact⟨_,rfl,rfl,rfl⟩
 ·exact⟨_,rfl,rfl,rfl⟩
theorem A6i (t:Bp) (h:t.2.1.length≤4294967296): ∃r,Ea t=some r∧Xf t=some r:=by
 obtain⟨cap,l,_⟩:=t
 simp only at h
 obtain⟨o1,o2,h1,h2,hq⟩:=Rt (B1:=G3) (B2:=Pp)
  (fun i d1 d2=>∃n:Int,0≤n∧n≤i∧d1=(n,l,(l.length:Int),(i:Int),())∧d2=(n,(i:Int),cap,l,())) (fun o1 o2=>o1=o2) l.length
  (by
   rintro i d1 d2 hi ⟨n,h0,h1,rfl,rfl⟩
   have hx:=List.getElem?_eq_getElem hi
   left
   unfold G3 Pp
   simp (disch:=omega) only[Ac,Ae,Ab,By hi,A4,Bk hx,Ai,w64]
   simp only[A74]
   split
   ·exact⟨_,_,rfl,rfl,n+1,by omega,by omega,rfl,rfl⟩
   ·exact⟨_,_,rfl,rfl,n,by omega,by omega,rfl,rfl⟩)
  (by
   rintro d1 d2 ⟨n,h0,h1,rfl,rfl⟩
   unfold G3 Pp
   simp only[Ac,Ae,Ab,Bz,Au]
   exact⟨_,_,rfl,rfl,rfl⟩)
  (d1:=((0:Int),l,(l.length:Int),(0:Int),())) (d2:=((0:Int),(0:Int),cap,l,())) ⟨0,by omega,by omega,rfl,rfl⟩
 subst hq
 refine⟨(o1.1,()),?_,?_⟩
 ·unfold Ea Agb
  simp only[Ae,Ab,h1,Ai]
 ·unfold Xf Aqf
  simp only[Ae,Ab,h2,Ai]
end
end Go.Proofs.YtfljmgnghlpapaaGreat

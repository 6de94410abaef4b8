/-
  That the program and the reference answer alike, in plain terms, and that the laws answer true.
-/
import Derived.Test.YtfljmgnghlpapaaGreatL21
namespace Go.Proofs.YtfljmgnghlpapaaGreat
open Go.RowKit
set_option linter.unusedVariables false
set_option linter.unusedSimpArgs false
set_option maxRecDepth 100000
set_option maxHeartbeats 4000000
noncomputable section
def Ct (l:List Ad):Nat:=l.countP fun x=> !Bo x
theorem G7 (t:Bp) (h:t.2.1.length≤4294967296):Ga t=(Ct t.2.1:Nat):=by
 obtain⟨cap,l,⟨⟩⟩:=t
 simp only at h
 have hl:=B8 (B:=G3) l.length (fun i=>(((Ct (l.take i):Nat):Int),l,(l.length:Int),(i:Int),())) (((Ct l:Nat):Int),())
  (fun i hi=>by
   have hx:=List.getElem?_eq_getElem hi
   have hc:Ct (l.take (i+1))=Ct (l.take i)+(if Bo l[i]=true then 0 else 1):=by
    rw[←Dg hx]
    unfold Ct
    rw[List.countP_append]
    cases hd:Bo l[i]<;>simp[List.countP_cons,hd]
   have hle:Ct (l.take i)≤i:=by
    have:=List.countP_le_length (p:=fun x=> !Bo x) (l:=l.take i)
    simp only[List.length_take]at this
    unfold Ct;omega
   unfold G3
   simp (disch:=omega) only[Ac,Ae,Ab,By hi,A4,Bk hx,Ai,w64]
   simp only[A74]
   rw[hc]
   split
   ·rename_i h1
    have h2:Bo l[i]=false:=by simpa using h1
    rw[if_neg (by rw[h2];decide)]
    simp
   ·rename_i h1
    have h2:Bo l[i]=true:=by simpa using h1
    rw[if_pos h2]
    simp)
  (by unfold G3;simp only[Ac,Ab,Bz,Au,List.take_length])
 unfold Ga Ea Agb
 simp only[Ae,Ab]
 rw[show As G3 ((0:Int),l,(l.length:Int),(0:Int),())=_ from hl]
 rfl
theorem A2r {E:Type} {q:E→Bool}: ∀ {l:List E} {i k:Nat} {x y:E},l[i]? =some x→q y=q x→G6 (fun _ z=>q z) (l.set i y) k=G6 (fun _ z=>q z) l k
 |[],i,k,x,y,h,_=>by simp at h
 |a::r,0,k,x,y,h,e=>by
  simp at h;subst h
  simp only[List.set_cons_zero,G6,e]
 |a::r,i+1,k,x,y,h,e=>by
  simp only[List.set_cons_succ,G6]
  rw[A2r (l:=r) (i:=i) (by simpa using h) e]
theorem Aub {l:List Ad} {i:Nat} {x y:Ad} (hx:l[i]? =some x) (h:y.2.2.1=x.2.2.1) (s:List YB):Es (l.set i y) s=Es l s:=by
 unfold Es L9
 rw[A2r (q:=fun x=>Ds x.2.2.1 s) hx (by simp only[h])]
theorem Ayj: ∀ {l:List Ad} {i:Nat} {x y:Ad},l[i]? =some x→(Bo y=true∨Bo y=Bo x)→Ct (l.set i y)≤Ct l
 |[],i,x,y,h,_=>by simp at h
 |a::r,0,x,y,h,e=>by
  simp at h;subst h
  simp only[List.set_cons_zero,Ct,List.countP_cons]
  rcases e with e|e
  ·rw[e];simp
  ·rw[e];exact Nat.le_refl _
 |a::r,i+1,x,y,h,e=>by
  have:=Ayj (l:=r) (i:=i) (x:=x) (y:=y) (by simpa using h) e
  simp only[List.set_cons_succ,Ct,List.countP_cons]at this ⊢
  omega
theorem Amw {t:Bp} {i:Nat} {x y:Ad} (hl:t.2.1.length≤4294967296) (ht:Ev t=true) (hx:t.2.1[i]? =some x) (ho:Cs y=true) (hs:y.2.2.1=x.2.2.1) (hd:Bo y=true∨Bo y=Bo x):Ev (t.1,t.2.1.set i y,())=true:=by
 unfold Ev at ht ⊢
 simp only[Bool.and_eq_true]at ht ⊢
 refine⟨ht.1,by simpa using ht.2.1,?_,?_⟩
 ·have h1:=ht.2.2.1
  rw[G7 t hl]at h1
  rw[G7 _ (by simpa using hl)]
  have h2:=Ayj hx hd
  simp only[Bool.not_eq_true',decide_eq_false_iff_not]at h1 ⊢
  have h1': ¬((Ct t.2.1:Nat):Int)>t.1:=h1
  have h2':Ct (t.2.1.set i y)≤Ct t.2.1:=h2
  show ¬((Ct (t.2.1.set i y):Nat):Int)>t.1
  omega
 ·have h1:=Hq.1 ht.2.2.2
  refine Hq.2 fun j z hz=>?_
  rw[List.getElem?_set]at hz
  unfold Gs
  by_cases hij:i=j
  ·subst hij
   have hlt:i<t.2.1.length:=(List.getElem?_eq_some_iff.1 hx).1
   rw[if_pos rfl,if_pos hlt]at hz
   simp only[Option.some.injEq]at hz
   subst hz
   have h3:=h1 i x hx
   unfold Gs at h3
   rw[Aub hx hs,hs,ho]
   simp only[Bool.not_eq_false',Bool.and_eq_true]at h3 ⊢
   exact⟨trivial,h3.2⟩
  ·rw[if_neg hij]at hz
   have h3:=h1 j z hz
   unfold Gs at h3
   rw[Aub hx hs]
   exact h3
theorem Auc (t:Bp) (n:YI) (s x:Ad) (h:Bg t+Aw s≤1073741824) (ht:Ev t=true) (h0:0≤n.1) (hx:t.2.1[n.1.toNat]? =some x) (ho:Ev (t.1,t.2.1.set n.1.toNat s,())=true):
  S5 t n s=some ((t.1,t.2.1.set n.1.toNat s,()),(true,())):=by
 have hl:t.2.1.length≤Bg t:=by simp only[Bg];omega
 have hlt:n.1.toNat<t.2.1.length:=(List.getElem?_eq_some_iff.1 hx).1
 have hn:Bg (t.1,t.2.1.set n.1.toNat s,())≤Bg t+Aw s:=by
  have:=Ah5 (f:=Aw) (l:=t.2.1) (i:=n.1.toNat) (x:=s)
  simp only[Bg,List.length_set];omega
 unfold S5 Acq
 simp only[Ac,Ae,Ab,Al]
 rw[T1 t zq0,Vz t zq0,M4 s zq0]
 simp only[Ai,ht,Bool.not_true,Au]
 rw[Bj zq0,Au,Bj zq0,Au]
 have hid:idx t.2.1 n.1=some x:=by unfold idx;rw[if_pos h0];exact hx
 rw[hid]
 simp only[Ai]
 rw[Vz _ zq0]
 simp only[Ai,ho,Bool.not_true,Au]
end
end Go.Proofs.YtfljmgnghlpapaaGreat

/-
  That the program and the reference answer alike, in plain terms, and that the laws answer true.
-/
import Derived.Test.YtmhhajdeafijmaaGreatL60
namespace Go.Proofs.YtmhhajdeafijmaaGreat
open Go.RowKit
set_option linter.unusedVariables false
set_option linter.unusedSimpArgs false
set_option maxRecDepth 100000
set_option maxHeartbeats 8000000
noncomputable section
def Ba5 (o:Bl):Prop:=Cq (o.2.2.1,o.2.2.2.1,o.2.2.2.2.1,o.2.2.2.2.2.1,o.2.2.2.2.2.2.1,o.2.2.2.2.2.2.2.1,o.2.2.2.2.2.2.2.2.1,o.2.2.2.2.2.2.2.2.2.1,o.2.2.2.2.2.2.2.2.2.2.1,o.2.2.2.2.2.2.2.2.2.2.2.1,o.2.2.2.2.2.2.2.2.2.2.2.2.1,())=true∧Du (o.1,o.2.1,())=true
def Mu (l:List Bl):Prop:=∀o∈l,Ba5 o
def Aku (s r:Bd) (n:Int) (a:Bu) (d:List YB) (os:List Bl) (ns:List A8) (k:Bool):Prop:=
 Fq r=true∧Mu os∧Lq ns∧Rf r=n∧ns≠[]∧(((A5 r).1=(A5 s).1∧(A5 r).2.1=(A5 s).2.1)∨((A5 r).1=a.1∧(A5 r).2.1=a.2.1))∧
 (k=false→(A5 s).2.2.1.length>0∨((A5 r).1=a.1∧(A5 r).2.1=a.2.1)∨(Ck r).2.2.2.2.1=281474976710656)∧
 (k=true→Ct (A5 r)=true∧ ¬((A5 r).1=a.1∧(A5 r).2.1=a.2.1)∧(∃l u,(A5 r).2.2.1=l++[(a.1,a.2.1,d,u,())]∧ ∀x∈l,atA a.1 a.2.1 x=false)∧ ∃os' o,os=os'++[o]∧o.1=a.1∧o.2.1=a.2.1∧o.2.2.1=5)
theorem A1o {s:Bd} {X:Aj} {P:A9} {n:Int} (h:Fq s=true) (hd:Lc s=false) (hX:Bt X=true) (h1:X.1=1) (h2:X.2.1=(Ck s).2.1) (hP:Ct P=true) (hn:0≤n∧n≤1000000):Fq (Gn s X P n)=true:=by
 obtain⟨q1,q2,q3,q4,q5,q6,q7,q8,q9⟩:=Vu h hd
 have hd':s.2.2.2.2.2.2.2.2.2.2.2.2.2.2.2.2.2.2.2.2.2.2.2.1=false:=hd
 unfold Gn
 rw[hd']
 exact Uf q1 q2 q3 hX h1 (by rw[h2];exact q7) hP q4 hn
theorem Od {a b:List A8} (h:Lq a) (k:Lq b):Lq (a++b):=fun n hn=>by
 rcases List.mem_append.1 hn with hn|hn
 ·exact h n hn
 ·exact k n hn
theorem Eo {n:A8} (h:J2 n=true):Lq [n]:=fun m hm=>by
 rw[List.mem_singleton.1 hm];exact h
theorem Aqo {a b:List Bl} (h:Mu a) (k:Mu b):Mu (a++b):=fun n hn=>by
 rcases List.mem_append.1 hn with hn|hn
 ·exact h n hn
 ·exact k n hn
theorem A7m {s:Bd} {X:Aj} {P p':A9} {n:YI} {a:Bu} {d:YBs} {os:List Bl} {ns:List A8} {b:Bool} {y:Aj} {g:Aq} {zz:Int} {m:A8} (hs:Fq s=true) (hd:Lc s=false) (hX:Bt X=true) (h1:X.1=1) (h2:X.2.1=(Ck s).2.1) (hP:Ct P=true) (hn:0≤n.1∧n.1≤1000000) (ha:Du a=true) (hdl:d.1.length=12)
  (hb:Au P≤4294967296) (hc:Av X≤60000000) (hos:Mu os) (hns:Lq ns) (hne:ns≠[]) (hAt:(P.1=(A5 s).1∧P.2.1=(A5 s).2.1)∨(P.1=a.1∧P.2.1=a.2.1)) (hcd:P.2.2.1=[]∨(A5 s).2.2.1.length>0)
  (o:Cd P n a d=some (p',(b,()))) (e:Bq X ((5:Int),()) d=some (y,g,(zz,()))):
  (b=false→Aku s (Gn s X P n.1) n.1 a d.1 os ns false)∧(zz≠0→Aku s (Gn s X P n.1) n.1 a d.1 os ns false)∧
  (b=true→zz=0→Aku s (Gn s y p' n.1) n.1 a d.1 (os++[(a.1,a.2.1,g.1,g.2.1,g.2.2.1,g.2.2.2.1,g.2.2.2.2.1,g.2.2.2.2.2.1,g.2.2.2.2.2.2.1,g.2.2.2.2.2.2.2.1,g.2.2.2.2.2.2.2.2.1,g.2.2.2.2.2.2.2.2.2.1,g.2.2.2.2.2.2.2.2.2.2.1,())]) (ns++[Fi y g]) true):=by
 obtain⟨d,⟨⟩⟩:=d
 dsimp only at hdl
 obtain⟨O1,O2⟩:=A5x hb o
 obtain⟨y',g',zz',e1,_,e',E1,E2,E3,E4,E5⟩:=En X 5 d zq0
 have ee:=e
 rw[show Bq X ((5:Int),()) (d,())=_ from e1]at ee
 simp only[Option.some.injEq,Prod.mk.injEq,and_true]at ee
 obtain⟨rfl,rfl,rfl⟩:=ee
 have h0:=A1o hs hd hX h1 h2 hP hn
 have base:((A5 s).2.2.1.length>0∨(P.1=a.1∧P.2.1=a.2.1)∨X.2.2.2.2.1=281474976710656)→Aku s (Gn s X P n.1) n.1 a d os ns false:=fun hr=>⟨h0,hos,hns,rfl,hne,hAt,fun _=>hr,fun h=>by cases h⟩
 refine⟨fun hb0=>base ?_,fun hz=>base (.inr (.inr (A7l zq0 e1 hz hX zq4 (by rw[hdl];decide)))),fun hb1 hz=>?_⟩
 ·rcases hcd with hcd|hcd
  ·obtain⟨q1,q2⟩:=(O1 hb0).2 hP (Bp.2 hn) ha hdl hcd
   exact .inr (.inl ⟨q1.symm,q2.symm⟩)
  ·exact .inl hcd
 ·obtain⟨a1,a2,a3,a4,a5,l,u,a6,a7⟩:=O2 hb1
  obtain⟨_,c2,c3,c4,c5,c6⟩:=E5 hz
  have hg1:g'.1=5:=by rw[c5];unfold Ev;rw[c6];rfl
  have hgo:Cq g'=true:=by rw[c5];exact Ac6 c6
  have hy1:y'.1=1:=by rw[E1];exact h1
  have hy2:y'.2.1=(Ck s).2.1:=by rw[E1];exact h2
  refine⟨A1o hs hd c2 hy1 hy2 a2 hn,Aqo hos (fun x hx=>?_),Od hns (Eo (Anz c2)),rfl,by simp,?_,fun h=>(by cases h),fun _=>⟨a2,?_,⟨l,u,a6,a7⟩,os,_,rfl,rfl,rfl,hg1⟩⟩
  ·rw[List.mem_singleton.1 hx]
   exact⟨hgo,a1⟩
  ·show(p'.1=_∧p'.2.1=_)∨(p'.1=_∧p'.2.1=_)
   rw[a3,a4];exact hAt
  ·show ¬(p'.1=_∧p'.2.1=_)
   rw[a3,a4]
   exact fun⟨q1,q2⟩=>a5 ⟨q1.symm,q2.symm⟩
end
end Go.Proofs.YtmhhajdeafijmaaGreat

/-
  That the program and the reference answer alike, in plain terms, and that the laws answer true.
-/
import Derived.Test.YtmhhajdeafijmaaGreatL60
namespace Go.Proofs.YtmhhajdeafijmaaGreat
open Go.RowKit
set_option linter.unusedVariables false
set_option linter.unusedSimpArgs false
set_option maxRecDepth 100000
set_option maxHeartbeats 8000000
noncomputable section
def A8z (o:Cv):Prop:=Co (o.2.2.1,o.2.2.2.1,o.2.2.2.2.1,o.2.2.2.2.2.1,o.2.2.2.2.2.2.1,o.2.2.2.2.2.2.2.1,o.2.2.2.2.2.2.2.2.1,o.2.2.2.2.2.2.2.2.2.1,o.2.2.2.2.2.2.2.2.2.2.1,o.2.2.2.2.2.2.2.2.2.2.2.1,o.2.2.2.2.2.2.2.2.2.2.2.2.1,())=true∧Dp (o.1,o.2.1,())=true
def Mf (l:List Cv):Prop:=∀o∈l,A8z o
def Ajj (s r:Bp) (n:Int) (a:B7) (d:List YB) (os:List Cv) (ns:List B8) (k:Bool):Prop:=
 Fm r=true∧Mf os∧Ld ns∧Qu r=n∧ns≠[]∧(((A5 r).1=(A5 s).1∧(A5 r).2.1=(A5 s).2.1)∨((A5 r).1=a.1∧(A5 r).2.1=a.2.1))∧
 (k=false→(A5 s).2.2.1.length>0∨((A5 r).1=a.1∧(A5 r).2.1=a.2.1)∨(Ci r).2.2.2.2.1=281474976710656)∧
 (k=true→Cq (A5 r)=true∧ ¬((A5 r).1=a.1∧(A5 r).2.1=a.2.1)∧(∃l u,(A5 r).2.2.1=l++[(a.1,a.2.1,d,u,())]∧ ∀x∈l,atA a.1 a.2.1 x=false)∧ ∃os' o,os=os'++[o]∧o.1=a.1∧o.2.1=a.2.1∧o.2.2.1=5)
theorem Azj {s:Bp} {X:Al} {P:Bb} {n:Int} (h:Fm s=true) (hd:Ky s=false) (hX:Bo X=true) (h1:X.1=1) (h2:X.2.1=(Ci s).2.1) (hP:Cq P=true) (hn:0≤n∧n≤1000000):Fm (Gk s X P n)=true:=by
 obtain⟨q1,q2,q3,q4,q5,q6,q7,q8,q9⟩:=U6 h hd
 have hd':s.2.2.2.2.2.2.2.2.2.2.2.2.2.2.2.2.2.2.2.2.2.2.2.1=false:=hd
 unfold Gk
 rw[hd']
 exact Tq q1 q2 q3 hX h1 (by rw[h2];exact q7) hP q4 hn
theorem Nv {a b:List B8} (h:Ld a) (k:Ld b):Ld (a++b):=fun n hn=>by
 rcases List.mem_append.1 hn with hn|hn
 ·exact h n hn
 ·exact k n hn
theorem El {n:B8} (h:Jt n=true):Ld [n]:=fun m hm=>by
 rw[List.mem_singleton.1 hm];exact h
theorem Aor {a b:List Cv} (h:Mf a) (k:Mf b):Mf (a++b):=fun n hn=>by
 rcases List.mem_append.1 hn with hn|hn
 ·exact h n hn
 ·exact k n hn
theorem A5g {s:Bp} {X:Al} {P p':Bb} {n:YI} {a:B7} {d:YBs} {os:List Cv} {ns:List B8} {b:Bool} {y:Al} {g:Au} {zz:Int} {m:B8} (hs:Fm s=true) (hd:Ky s=false) (hX:Bo X=true) (h1:X.1=1) (h2:X.2.1=(Ci s).2.1) (hP:Cq P=true) (hn:0≤n.1∧n.1≤1000000) (ha:Dp a=true) (hdl:d.1.length=12)
  (hb:As P≤4294967296) (hc:Av X≤60000000) (hos:Mf os) (hns:Ld ns) (hne:ns≠[]) (hAt:(P.1=(A5 s).1∧P.2.1=(A5 s).2.1)∨(P.1=a.1∧P.2.1=a.2.1)) (hcd:P.2.2.1=[]∨(A5 s).2.2.1.length>0)
  (o:Cc P n a d=some (p',(b,()))) (e:Bm X ((5:Int),()) d=some (y,g,(zz,()))):
  (b=false→Ajj s (Gk s X P n.1) n.1 a d.1 os ns false)∧(zz≠0→Ajj s (Gk s X P n.1) n.1 a d.1 os ns false)∧
  (b=true→zz=0→Ajj s (Gk s y p' n.1) n.1 a d.1 (os++[(a.1,a.2.1,g.1,g.2.1,g.2.2.1,g.2.2.2.1,g.2.2.2.2.1,g.2.2.2.2.2.1,g.2.2.2.2.2.2.1,g.2.2.2.2.2.2.2.1,g.2.2.2.2.2.2.2.2.1,g.2.2.2.2.2.2.2.2.2.1,g.2.2.2.2.2.2.2.2.2.2.1,())]) (ns++[Fh y g]) true):=by
 obtain⟨d,⟨⟩⟩:=d
 dsimp only at hdl
 obtain⟨O1,O2⟩:=A3r hb o
 obtain⟨y',g',zz',e1,_,e',E1,E2,E3,E4,E5⟩:=Ek X 5 d zq0
 have ee:=e
 rw[show Bm X ((5:Int),()) (d,())=_ from e1]at ee
 simp only[Option.some.injEq,Prod.mk.injEq,and_true]at ee
 obtain⟨rfl,rfl,rfl⟩:=ee
 have h0:=Azj hs hd hX h1 h2 hP hn
 have base:((A5 s).2.2.1.length>0∨(P.1=a.1∧P.2.1=a.2.1)∨X.2.2.2.2.1=281474976710656)→Ajj s (Gk s X P n.1) n.1 a d os ns false:=fun hr=>⟨h0,hos,hns,rfl,hne,hAt,fun _=>hr,fun h=>by cases h⟩
 refine⟨fun hb0=>base ?_,fun hz=>base (.inr (.inr (A5f zq0 e1 hz hX zq4 (by rw[hdl];decide)))),fun hb1 hz=>?_⟩
 ·rcases hcd with hcd|hcd
  ·obtain⟨q1,q2⟩:=(O1 hb0).2 hP (Bl.2 hn) ha hdl hcd
   exact .inr (.inl ⟨q1.symm,q2.symm⟩)
  ·exact .inl hcd
 ·obtain⟨a1,a2,a3,a4,a5,l,u,a6,a7⟩:=O2 hb1
  obtain⟨_,c2,c3,c4,c5,c6⟩:=E5 hz
  have hg1:g'.1=5:=by rw[c5];unfold Es;rw[c6];rfl
  have hgo:Co g'=true:=by rw[c5];exact Ab8 c6
  have hy1:y'.1=1:=by rw[E1];exact h1
  have hy2:y'.2.1=(Ci s).2.1:=by rw[E1];exact h2
  refine⟨Azj hs hd c2 hy1 hy2 a2 hn,Aor hos (fun x hx=>?_),Nv hns (El (Al9 c2)),rfl,by simp,?_,fun h=>(by cases h),fun _=>⟨a2,?_,⟨l,u,a6,a7⟩,os,_,rfl,rfl,rfl,hg1⟩⟩
  ·rw[List.mem_singleton.1 hx]
   exact⟨hgo,a1⟩
  ·show(p'.1=_∧p'.2.1=_)∨(p'.1=_∧p'.2.1=_)
   rw[a3,a4];exact hAt
  ·show ¬(p'.1=_∧p'.2.1=_)
   rw[a3,a4]
   exact fun⟨q1,q2⟩=>a5 ⟨q1.symm,q2.symm⟩
end
end Go.Proofs.YtmhhajdeafijmaaGreat

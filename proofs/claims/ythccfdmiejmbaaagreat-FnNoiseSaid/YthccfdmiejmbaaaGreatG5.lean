/-
  That the program and the reference answer alike, in plain terms, and that the laws answer true.
-/
import Derived.Test.YthccfdmiejmbaaaGreatG4
namespace Go.Proofs.YthccfdmiejmbaaaGreat
open Go.RowKit
set_option linter.unusedVariables false
set_option linter.unusedSimpArgs false
set_option maxRecDepth 100000
set_option maxHeartbeats 8000000
noncomputable section
theorem Bpd {n:Int} (h:0<=n/\n<=255):Qs [((n:Int),())]=n:=by
 unfold Qs
 simp only[List.foldl_cons,List.foldl_nil]
 rw[w64 (n:=n) zq0,show IntKind.i64.wrap ((0:Int)*256)=0 by decide,w64 zq0]
 omega
def Auv (x:An):Prop:=Cq (x.1,x.2.1,())=true/\(0<=x.2.2.1/\x.2.2.1<=1000000)/\(0<=x.2.2.2.1/\x.2.2.2.1<=3*x.2.2.1)
def Br9 (a b:An):Prop:=eqA a.1 a.2.1 b.1 b.2.1=false
theorem D3 {l:List An}:Cr l=true↔l.length<=8/\(∀x∈l,Auv x)/\l.Pairwise Br9:=by
 have hq: ∀(i:Nat) (x:An),l[i]? =some x->(Uf l i x=false↔Auv x/\Ee (fun _ (y:An)=>eqA y.1 y.2.1 x.1 x.2.1) (l.take i)=true):=fun i x hx=>by
  unfold Uf Df Auv
  rw[A08 (q:=fun y:An=>eqA y.1 y.2.1 x.1 x.2.1) hx (Bhk _ _)]
  simp only[Bool.not_not,Bool.not_eq_false',Bool.and_eq_true,Bx]
  constructor
  .rintro⟨h1,h2,h3,h4⟩
   rw[w64 zq0]at h3
   exact⟨⟨h1,h2,h3⟩,h4⟩
  .rintro⟨⟨h1,h2,h3⟩,h4⟩
   rw[w64 zq0]
   exact⟨h1,h2,h3,h4⟩
 unfold Cr
 simp only[Bool.and_eq_true,Bool.not_eq_true',decide_eq_false_iff_not]
 rw[H0,List.pairwise_iff_getElem]
 constructor
 .rintro⟨h0,h⟩
  refine⟨by omega,fun x hx=>?_,fun i j hi hj hij=>?_⟩
  .obtain⟨j,hj⟩:=List.getElem?_of_mem hx
   exact((hq j x hj).1 (h j x hj)).1
  .have h1:=((hq j l[j] (List.getElem?_eq_getElem hj)).1 (h j l[j] (List.getElem?_eq_getElem hj))).2
   rw[H0]at h1
   exact h1 i l[i] (by rw[List.getElem?_take,if_pos hij];exact List.getElem?_eq_getElem hi)
 .rintro⟨h0,h1,h2⟩
  refine⟨by omega,fun j x hj=>(hq j x hj).2 ⟨h1 x (List.mem_of_getElem? hj),H0.2 fun i y hi=>?_⟩⟩
  rw[List.getElem?_take]at hi
  split at hi
  .rename_i hlt
   obtain⟨k1,k2⟩:=List.getElem?_eq_some_iff.1 hi
   obtain⟨k3,k4⟩:=List.getElem?_eq_some_iff.1 hj
   have:=h2 i j k1 k3 hlt
   rw[k2,k4]at this
   exact this
  .cases hi
theorem A0f {l:List An} {a:A8} (h:0<=Df l a): ∃x,l[(Df l a).toNat]? =some x/\x.1=a.1/\x.2.1=a.2.1:=by
 unfold Df Mb at h ⊢
 cases hf:Im (fun _ (x:An)=>eqA x.1 x.2.1 a.1 a.2.1) l 0 with
 |none=>rw[hf]at h;simp at h
 |some k=>
  obtain⟨j,y,hk,h2,h3,_⟩:=S4 hf
  have hk:k=j:=by omega
  subst hk
  have h3:=Aps.1 h3
  exact⟨y,by simpa using h2,h3.1,h3.2⟩
theorem Bfv {l:List An} {a:A8} (h:Df l a<0): ∀x∈l,eqA x.1 x.2.1 a.1 a.2.1=false:=fun x hx=>by
 obtain⟨i,hi⟩:=List.getElem?_of_mem hx
 cases hs:eqA x.1 x.2.1 a.1 a.2.1 with
 |false=>rfl
 |true=>
  have:=(Agq (q:=fun y:An=>eqA y.1 y.2.1 a.1 a.2.1) hi hs).1
  unfold Df at h
  omega
theorem Biq {l:List An} {i:Nat} {x y:An} (h:Cr l=true) (hx:l[i]? =some x) (h1:y.1=x.1) (h2:y.2.1=x.2.1) (hy:Auv y):Cr (l.set i y)=true:=by
 obtain⟨q1,q2,q3⟩:=D3.1 h
 refine D3.2 ⟨by simpa using q1,fun z hz=>?_,?_⟩
 .rcases List.mem_or_eq_of_mem_set hz with hz|hz
  .exact q2 z hz
  .rw[hz];exact hy
 .rw[List.pairwise_iff_getElem]at q3 ⊢
  intro a b ha hb hab
  have ha':a<l.length:=by simpa using ha
  have hb':b<l.length:=by simpa using hb
  have hq:=q3 a b ha' hb' hab
  obtain⟨hi,hxi⟩:=List.getElem?_eq_some_iff.1 hx
  have e: ∀(j:Nat) (hj:j<(l.set i y).length) (hj':j<l.length),(l.set i y)[j].1=l[j].1/\(l.set i y)[j].2.1=l[j].2.1:=fun j hj hj'=>by
   rw[List.getElem_set]
   split
   .rename_i hij
    subst hij
    rw[hxi]
    exact⟨h1,h2⟩
   .exact⟨rfl,rfl⟩
  unfold Br9 at hq ⊢
  rw[(e a ha ha').1,(e a ha ha').2,(e b hb hb').1,(e b hb hb').2]
  exact hq
def Jf:List An->Int
 |[]=>0
 |x::r=>x.2.2.2.1+Jf r
theorem Bd3: ∀ {a b:List An},Jf (a++b)=Jf a+Jf b
 |[],b=>by simp[Jf]
 |x::a,b=>by simp only[List.cons_append,Jf,Bd3];omega
theorem A0g: ∀ {l:List An} {i:Nat} {x y:An},l[i]? =some x->Jf (l.set i y)=Jf l-x.2.2.2.1+y.2.2.2.1
 |[],i,x,y,h=>by simp at h
 |a::r,0,x,y,h=>by
  simp at h;subst h
  simp only[List.set_cons_zero,Jf];omega
 |a::r,i+1,x,y,h=>by
  have:=A0g (l:=r) (i:=i) (x:=x) (y:=y) (by simpa using h)
  simp only[List.set_cons_succ,Jf];omega
def Adg (l:List An) (a:A8) (n:Int):List An:=
 if Cr l=true/\Cq a=true/\inR n 0 1000000=true then
  if Df l a<0 then(if l.length=8 then l else l++[(a.1,a.2.1,n,(0:Int),())])
  else match l[(Df l a).toNat]? with
   |some x=>l.set (Df l a).toNat (x.1,x.2.1,(if x.2.2.1+n>1000000 then 1000000 else x.2.2.1+n),x.2.2.2.1,())
   |none=>l
 else l
theorem Bt1 {l:List An} {a:A8} {n:Int} (h:Cr l=true):Cr (Adg l a n)=true/\Jf (Adg l a n)=Jf l:=by
 unfold Adg
 split
 .rename_i hc
  obtain⟨c1,c2,c3⟩:=hc
  have c3:=Bx.1 c3
  obtain⟨q1,q2,q3⟩:=D3.1 h
  split
  .rename_i hneg
   split
   .exact⟨h,rfl⟩
   .refine⟨D3.2 ⟨by simp;omega,fun x hx=>?_,?_⟩,by rw[Bd3];simp[Jf]⟩
    .rcases List.mem_append.1 hx with hx|hx
     .exact q2 x hx
     .simp only[List.mem_singleton]at hx
      rw[hx]
      exact⟨c2,c3,by simp;omega⟩
    .refine List.pairwise_append.2 ⟨q3,List.pairwise_singleton _ _,fun x hx y hy=>?_⟩
     simp only[List.mem_singleton]at hy
     subst hy
     exact Bfv hneg x hx
  .rename_i hpos
   obtain⟨x,hx,_,_⟩:=A0f (l:=l) (a:=a) zq0
   rw[hx]
   obtain⟨g1,g2,g3⟩:=q2 x (List.mem_of_getElem? hx)
   refine⟨Biq h hx rfl rfl ⟨g1,?_,?_⟩,?_⟩
   .dsimp only;split<;>omega
   .dsimp only;split<;>omega
   .rw[A0g hx];dsimp only;omega
 .exact⟨h,rfl⟩
theorem Bsa (l:List An) (a:A8) (n:Int):(Adg l a n).length<=l.length+1:=by
 unfold Adg
 split
 .split
  .split<;>simp
  .split<;>simp
 .omega
def Vm (l:List An) (a:A8) (n:Int):Option (List An):=
 if Cr l=true/\0<=Df l a then
  match l[(Df l a).toNat]? with
  |some x=>if inR n 0 (3*x.2.2.1-x.2.2.2.1)=true then some (l.set (Df l a).toNat (x.1,x.2.1,x.2.2.1,x.2.2.2.1+n,()))else none
  |none=>none
 else none
theorem Bsb {l r:List An} {a:A8} {n:Int} (h:Vm l a n=some r):Cr l=true/\Cr r=true/\Jf r=Jf l+n/\r.length=l.length:=by
 unfold Vm at h
 split at h
 .rename_i hc
  split at h
  .rename_i x hx
   split at h
   .rename_i hn
    cases h
    have hn:=Bx.1 hn
    obtain⟨q1,q2,q3⟩:=D3.1 hc.1
    obtain⟨g1,g2,g3⟩:=q2 x (List.mem_of_getElem? hx)
    refine⟨hc.1,Biq hc.1 hx rfl rfl ⟨g1,g2,?_⟩,?_,by simp⟩
    .dsimp only;omega
    .rw[A0g hx];dsimp only;omega
   .cases h
  .cases h
 .cases h
theorem Agv {l:List An} {a:A8} (h:0<=Df l a): ∃x,l[(Df l a).toNat]? =some x/\idx l (Df l a)=some x:=by
 obtain⟨x,hx,_⟩:=A0f h
 refine⟨x,hx,?_⟩
 unfold idx;rw[if_pos h];exact hx
theorem Bt2 {l:List An} {n:Int} {x y:An} (h:0<=n) (hx:l[n.toNat]? =some x):idx (l.set n.toNat y) n=some y:=by
 unfold idx
 rw[if_pos h,List.getElem?_set_self (List.getElem?_eq_some_iff.1 hx).1]
theorem Bvz (l:List An) (a:A8) (n:YI) (h:l.length<=1000):Wk (l,()) a n=some (Adg l a n.1,()):=by
 unfold Wk Ara Adg
 simp only[Af,Ah,Aa,Ak,List.length_nil,List.nil_append,Nat.zero_add]
 rw[Ai zq0,Ay,K8 l zq0,Ac,Il,Ac,Cy,Ac,Abz l a zq0,Ac]
 by_cases hc:Cr l=true/\Cq a=true/\inR n.1 0 1000000=true
 .obtain⟨c1,c2,c3⟩:=hc
  have c4:=Bx.1 c3
  rw[if_pos ⟨c1,c2,c3⟩,c1,c2,c3]
  simp only[Bool.not_true,Ao]
  by_cases hneg:Df l a<0
  .rw[if_pos hneg,Ai hneg,A6]
   by_cases h8:l.length=8
   .have:((l.length:Int)==8)=true:=by simp;omega
    rw[if_pos h8,this,A6]
   .have:((l.length:Int)==8)=false:=by simp;omega
    rw[if_neg h8,this,Ao,Ai zq1,Ay]
  .obtain⟨x,hx,hi⟩:=Agv (l:=l) (a:=a) zq0
   obtain⟨_,q2,_⟩:=D3.1 c1
   obtain⟨_,g2,_⟩:=q2 x (List.mem_of_getElem? hx)
   rw[if_neg hneg,Bt hneg,Ao,hi,hx]
   simp only[Ac]
   rw[Bt2 zq0 hx]
   simp only[Ac]
   rw[w64 zq0]
   by_cases hm:x.2.2.1+n.1>1000000
   .rw[Ai hm,A6,if_pos hm,List.set_set]
   .rw[Bt hm,Ao,if_neg hm]
 .rw[if_neg hc]
  cases e1:Cr l with
  |false=>rfl
  |true=>
   cases e2:Cq a with
   |false=>rfl
   |true=>
    cases e3:inR n.1 0 1000000 with
    |false=>rfl
    |true=>exact(hc ⟨e1,e2,e3⟩).elim
theorem Bpe (l:List An) (a:A8) (h:l.length<=1000): ∃r,Jc (l,()) a=some (r,())/\(Cr l=true-> ∀x,0<=Df l a->l[(Df l a).toNat]? =some x->r=3*x.2.2.1-x.2.2.2.1):=by
 unfold Jc U3
 simp only[Af,Ah,Aa]
 rw[Abz l a zq0,Ac,K8 l zq0,Ac]
 cases e1:Cr l with
 |false=>exact⟨_,rfl,fun h=>(by cases h)⟩
 |true=>
  simp only[Bool.not_true,Ao]
  by_cases hneg:Df l a<0
  .rw[Ai hneg];exact⟨_,rfl,fun _ x h=>by omega⟩
  .obtain⟨x,hx,hi⟩:=Agv (l:=l) (a:=a) zq0
   obtain⟨_,q2,_⟩:=D3.1 e1
   obtain⟨_,g2,g3⟩:=q2 x (List.mem_of_getElem? hx)
   rw[Bt hneg,Ao,hi]
   simp only[Ac]
   rw[w64 (n:=3*x.2.2.1) zq0,w64 zq0]
   refine⟨_,rfl,fun _ y _ hy=>?_⟩
   rw[hx]at hy;cases hy;rfl
theorem Bt3 (l:List An) (a:A8) (n:YI) (h:l.length<=1000):Sq (l,()) a n=some (match Vm l a n.1 with|some r=>((r,()),(true,()))|none=>((l,()),(false,()))):=by
 obtain⟨rm,r1,r2⟩:=Bpe l a h
 unfold Sq Aj3
 simp only[Af,Ah,Aa,Ak,List.length_nil,List.nil_append,Nat.zero_add]
 rw[Ai zq0,Ay,Abz l a zq0,Ac,K8 l zq0,Ac,r1,Ac,Cy,Ac]
 unfold Vm
 by_cases hneg:Df l a<0
 .rw[Ai hneg,A6,if_neg zq0]
 .rw[Bt hneg,Ao]
  cases e1:Cr l with
  |false=>rw[if_neg zq3];rfl
  |true=>
   obtain⟨x,hx,hi⟩:=Agv (l:=l) (a:=a) zq0
   obtain⟨_,q2,_⟩:=D3.1 e1
   obtain⟨_,g2,g3⟩:=q2 x (List.mem_of_getElem? hx)
   have hr:=r2 e1 x zq0 hx
   subst hr
   rw[if_pos ⟨rfl,by omega⟩,hx,hi]
   simp only[Bool.not_true,Ao,Ac]
   cases hn:inR n.1 0 (3*x.2.2.1-x.2.2.2.1)with
   |false=>rfl
   |true=>
    have:=Bx.1 hn
    rw[w64 zq0]
    rfl
def Auw (s r:Al) (os:List Az) (ns:List Aq):Prop:=Dk r=true/\Kk os/\I7 ns/\r.1=s.1/\r.2.2.1=s.2.2.1/\Dd r=false/\r.2.1=s.2.1
theorem Bxa {s:Al} {X:Au} {P p':Bn} {n:YI} {a:A8} {d:YBs} {os:List Az} {ns:List Aq} {b:Bool} {y:Au} {g:Ap} {zz:Int} {m:Aq} (hs:Dk s=true) (hd:Dd s=false) (hX:Cz X=true) (h1:X.1=1) (h2:X.2.1=(Cj s).2.1) (hP:E8 P=true) (hn:0<=n.1/\n.1<=1000000) (ha:Cq a=true) (hdl:d.1.length<=12)
  (hb:Bd P<=4294967296) (hc:A9 X<=60000000) (hos:Kk os) (hns:I7 ns) (hne:ns≠[]) (hAt:(P.1=(Bm s).1/\P.2.1=(Bm s).2.1)\/(P.1=a.1/\P.2.1=a.2.1)) (hcd:P.2.2.1=[]\/(Bm s).2.2.1.length>0)
  (o:Do P n a d=some (p',(b,()))) (e:Ct X ((5:Int),()) d=some (y,g,(zz,()))):
  (b=false->Auw s (Ju s X P n.1) os ns)/\(zz≠0->Auw s (Ju s X P n.1) os ns)/\
  (b=true->zz=0->Auw s (Ju s y p' n.1) (os++[(a.1,a.2.1,g.1,g.2.1,g.2.2.1,g.2.2.2.1,g.2.2.2.2.1,g.2.2.2.2.2.1,g.2.2.2.2.2.2.1,g.2.2.2.2.2.2.2.1,g.2.2.2.2.2.2.2.2.1,g.2.2.2.2.2.2.2.2.2.1,g.2.2.2.2.2.2.2.2.2.2.1,())]) (ns++[Hd y g])):=by
 obtain⟨d,⟨⟩⟩:=d
 dsimp only at hdl
 obtain⟨O1,O2⟩:=Br3 hb o
 obtain⟨y',g',zz',e1,_,e',E1,E2,E3,E4,E5⟩:=G6 X 5 d zq0
 have ee:=e
 rw[show Ct X ((5:Int),()) (d,())=_ from e1]at ee
 simp only[Option.some.injEq,Prod.mk.injEq,and_true]at ee
 obtain⟨rfl,rfl,rfl⟩:=ee
 have h0:=Bmr hs hd hX h1 h2 hP hn
 have base:Auw s (Ju s X P n.1) os ns:=⟨h0,hos,hns,rfl,rfl,hd,rfl⟩
 refine⟨fun _=>base,fun _=>base,fun hb1 hz=>?_⟩
 .obtain⟨a1,a2,a3,a4,a5,l,u,a6,a7⟩:=O2 hb1
  obtain⟨_,c2,c3,c4,c5,c6⟩:=E5 hz
  have hg1:g'.1=5:=by rw[c5];unfold Gz;rw[c6];rfl
  have hgo:Bu g'=true:=by rw[c5];exact Ab3 c6
  have hy1:y'.1=1:=by rw[E1];exact h1
  have hy2:y'.2.1=(Cj s).2.1:=by rw[E1];exact h2
  refine⟨Bmr hs hd c2 hy1 hy2 a2 hn,A88 hos (fun x hx=>?_),La hns (Fj (Aus c2)),rfl,rfl,hd,rfl⟩
  rw[List.mem_singleton.1 hx]
  exact⟨hgo,a1⟩
theorem A89 {s r:Al} {X:Au} {P p':Bn} {n:YI} {a:A8} {d:YBs} {os os2:List Az} {ns ns2:List Aq} {b k c1 c2:Bool} {y:Au} {g:Ap} {zz:Int} (hs:Dk s=true) (hd:Dd s=false) (hX:Cz X=true) (h1:X.1=1) (h2:X.2.1=(Cj s).2.1) (hP:E8 P=true) (hn:0<=n.1/\n.1<=1000000) (ha:Cq a=true) (hdl:d.1.length<=12)
  (hb:Bd P<=4294967296) (hc:A9 X<=60000000) (hos:Kk os) (hns:I7 ns) (hne:ns≠[]) (hAt:(P.1=(Bm s).1/\P.2.1=(Bm s).2.1)\/(P.1=a.1/\P.2.1=a.2.1)) (hcd:P.2.2.1=[]\/(Bm s).2.2.1.length>0)
  (o:Do P n a d=some (p',(b,()))) (e:Ct X ((5:Int),()) d=some (y,g,(zz,())))
  (h:br (!b) (some (Ju s X P n.1,(os,()),(ns,()),(false,()))) (br (zz != (0:Int)) (some (Ju s X P n.1,(os,()),(ns,()),(false,()))) (chk c1 (chk c2 (some (Ju s y p' n.1,(os++[(a.1,a.2.1,g.1,g.2.1,g.2.2.1,g.2.2.2.1,g.2.2.2.2.1,g.2.2.2.2.2.1,g.2.2.2.2.2.2.1,g.2.2.2.2.2.2.2.1,g.2.2.2.2.2.2.2.2.1,g.2.2.2.2.2.2.2.2.2.1,g.2.2.2.2.2.2.2.2.2.2.1,())],()),(ns++[Hd y g],()),(true,()))))))=some (r,(os2,()),(ns2,()),(k,()))):Auw s r os2 ns2:=by
 obtain⟨T1,T2,T3⟩:=Bxa hs hd hX h1 h2 hP hn ha hdl hb hc hos hns hne hAt hcd o e (m:=Hd y g)
 rcases Gg h with⟨q,h⟩|⟨q,h⟩
 .have q:b=false:=by simpa using q
  simp only[Option.some.injEq,Prod.mk.injEq,and_true]at h
  obtain⟨rfl,rfl,rfl,rfl⟩:=h
  exact T1 q
 have q:b=true:=by simpa using q
 rcases Gg h with⟨q2,h⟩|⟨q2,h⟩
 .simp only[Option.some.injEq,Prod.mk.injEq,and_true]at h
  obtain⟨rfl,rfl,rfl,rfl⟩:=h
  exact T2 (by simpa using q2)
 .have h:=He (He h)
  simp only[Option.some.injEq,Prod.mk.injEq,and_true]at h
  obtain⟨rfl,rfl,rfl,rfl⟩:=h
  exact T3 q (by simpa using q2)
theorem Bx9 (s:Al) (h:A5 s<=8388608) (ho:Dk s=true) (hd:Dd s=false) {r:Al} {os:List Az} {ns:List Aq} (e:K7 s=some (r,(os,()),(ns,()))):(r=s/\os=[]/\ns=[])\/Auw s r os ns:=by
 have hch:=Ade s
 have hck:=Fc (Cj s)
 obtain⟨q1,q2,q3,q4,q5,q6,q7,q8,q9⟩:=Aaq ho hd
 have none: ∀ {r':Al} {os':List Az} {ns':List Aq},some (s,(([]:List Az),()),(([]:List Aq),()))=some (r',(os',()),(ns',()))->(r'=s/\os'=[]/\ns'=[]):=fun h=>by
  simp only[Option.some.injEq,Prod.mk.injEq,and_true]at h
  exact⟨h.1.symm,h.2.1.symm,h.2.2.symm⟩
 obtain⟨c',f,z,k1,_,K1,K2,K3⟩:=A83 (Cj s) zq0
 have hyk:=Fc c'
 unfold K7 Ac1 at e
 simp only[Af,Ah,Aa,Ak]at e
 rw[Nd s zq0,Wr s zq0]at e
 have hd':s.2.2.2.2.2.2.2.2.2.2.2.2.2.2.2.2.2.2.2.2.2.2.2.1=false:=hd
 simp only[Ac,ho,Bool.not_true,Ao]at e
 rw[C4 hd']at e
 rcases Gg e with⟨_,e⟩|⟨_,e⟩
 .exact .inl (none e)
 rw[show Agn _=some (c',f,(z,()))from k1]at e
 simp only[Ac]at e
 rcases Gg e with⟨_,e⟩|⟨hz,e⟩
 .exact .inl (none e)
 have hz:z=0:=by simpa using hz
 obtain⟨F1,F2,F3,F4,F5,F6,F7,F8⟩:=Br5 (K3 hz)
 rw[Iq c' f zq0 zq0]at e
 simp only[Ac,Option.some.injEq,Prod.mk.injEq,and_true]at e
 obtain⟨rfl,rfl,rfl⟩:=e
 have hpa:Cq ((Bm s).1,(Bm s).2.1,())=true:=by
  unfold E8 at q8
  simp only[Bool.and_eq_true]at q8
  exact q8.1
 have hX2:c'.2.1=(Cj s).2.1:=by
  obtain⟨e',E1,_⟩:=K3 hz
  rw[E1];rfl
 have hT:=Bt0 (p:=Bm s) ho hd F1 F2 hX2 q8
 have ho1:Kk [((Bm s).1,(Bm s).2.1,f.1,f.2.1,f.2.2.1,f.2.2.2.1,f.2.2.2.2.1,f.2.2.2.2.2.1,f.2.2.2.2.2.2.1,f.2.2.2.2.2.2.2.1,f.2.2.2.2.2.2.2.2.1,f.2.2.2.2.2.2.2.2.2.1,f.2.2.2.2.2.2.2.2.2.2.1,())]:=fun o hm=>by
  rw[List.mem_singleton.1 hm]
  exact⟨F4,hpa⟩
 have hn1:=Fj F5
 clear K1 K2 K3 k1 F1 F2 F3 F4 F5 F6 F7 F8
 exact .inr ⟨hT,ho1,hn1,rfl,rfl,hd,rfl⟩
theorem Bsc (s:Al) (n:YI) (a:A8) (f:Ap) (d:YBs) (h:A5 s<=8388608) (h2:Av f<=8388608) (w1:wfB f.2.2.2.1) (w2:wfB (Cj s).2.1) (ho:Dk s=true) (hd:Dd s=false) (hdl:d.1.length<=12)
  {r:Al} {os:List Az} {ns:List Aq} {k:Bool} (e:Jn s n a f d=some (r,(os,()),(ns,()),(k,()))):(ns=[]/\r=s/\os=[]/\k=false)\/Auw s r os ns:=by
 have hch:=Ade s
 have hpa:=Az4 s
 have hck:=Fc (Cj s)
 have hsl:s.2.2.1.length<=A5 s:=by simp only[A5];omega
 have htl:=Vl 0 f
 obtain⟨q1,q2,q3,q4,q5,q6,q7,q8,q9⟩:=Aaq ho hd
 obtain⟨ch,p,z,o1,_,O1,O2,O3,O4⟩:=A3d (Cj s) n f zq0 zq0 w1 w2
 obtain⟨ky,kb,y1,_,y3,y4⟩:=Bdu (Cj s) (f.2.2.2.2.2.2.2.1,()) zq0
 have hchk:=Fc ch
 have none: ∀ {r':Al} {os':List Az} {ns':List Aq} {k':Bool},some (s,(([]:List Az),()),(([]:List Aq),()),(false,()))=some (r',(os',()),(ns',()),(k',()))->(ns'=[]/\r'=s/\os'=[]/\k'=false):=fun h=>by
  simp only[Option.some.injEq,Prod.mk.injEq,and_true]at h
  exact⟨h.2.2.1.symm,h.1.symm,h.2.1.symm,h.2.2.2.symm⟩
 unfold Jn Zu at e
 simp only[Af,Ah,Aa,Ak]at e
 rw[Nd s zq0,Wr s zq0,Ik]at e
 have hd':s.2.2.2.2.2.2.2.2.2.2.2.2.2.2.2.2.2.2.2.2.2.2.2.1=false:=hd
 simp only[Ac,ho,Bool.not_true,Ao]at e
 rw[C4 hd']at e
 cases ha:Cq a with
 |false=>rw[ha]at e;exact .inl (none e)
 |true=>
 rw[ha]at e
 simp only[Bool.not_true,Ao]at e
 rw[show Ou (Cj s) n f=some (ch,(p,()),(z,()))from o1,show Aad (Cj s) (f.2.2.2.2.2.2.2.1,())=some ((ky,()),(kb,()))from y1,Ug _ _ zq0]at e
 simp only[Ac]at e
 by_cases hz:z=0
 case neg=>
  rw[Dv (by simpa using hz)]at e
  exact .inl (none e)
 case pos=>
 subst hz
 rw[C4 (by rfl),Apr _ _ _ zq0 zq0 zq0]at e
 simp only[Ac]at e
 obtain⟨P1,P2,hn,P4,P5,P6,P7,P8,P9,P10,_⟩:=O4 rfl
 obtain⟨b1,b2,b3,b4,b5⟩:=Ui P4 P5
 have hX1:ch.1=1:=by rw[P7];exact q6
 have hX2:ch.2.1=(Cj s).2.1:=P8
 have tk:L6 (Hs ky s.2.2.1 (D9 0 f))=true:=A5q y4 (.inr q3) zq0
 have hos0:Kk []:=fun _ h=>by cases h
 have hAt0:((Bm s).1=(Bm s).1/\(Bm s).2.1=(Bm s).2.1)\/((Bm s).1=a.1/\(Bm s).2.1=a.2.1):=.inl ⟨rfl,rfl⟩
 have hcd0:(Bm s).2.2.1=[]\/(Bm s).2.2.1.length>0:=by
  cases (Bm s).2.2.1 with
  |nil=>exact .inl rfl
  |cons _ _=>exact .inr zq3
 have run: ∀(X:Au) (P:Bn),Bd P<=4294967296->A9 X<=60000000-> ∃p' b y g zz,Do P n a d=some (p',(b,()))/\Ct X ((5:Int),()) d=some (y,g,(zz,()))/\Ii y g=some (Hd y g):=fun X P h1 h2=>by
  obtain⟨p',b,of1,_⟩:=Kf P n a d h1
  obtain⟨y,g,zz,g1,_,e',GS1,GS2,GS3,_⟩:=G6 X 5 d.1 zq0
  have hyk:=Fc y
  exact⟨p',b,y,g,zz,of1,g1,Iq y g zq0 zq0⟩
 rcases Gg e with⟨_,e⟩|⟨_,e⟩
 .
  rw[Cb _ zq2]at e
  simp only[Ac]at e
  have e:=He e
  obtain⟨p',b,y,g,zz,of1,g1,m1⟩:=run ch (Bm s) zq0 zq0
  rw[show Do (Bm s) n a d=some (p',(b,()))from of1,show Ct ch ((5:Int),()) d=some (y,g,(zz,()))from g1]at e
  simp only[Ac]at e
  rw[m1]at e
  simp only[Ac]at e
  have got:L6 ((6:Int),(0:Int),(0:Int),([]:List YB),s.2.2.1,f.2.2.2.2.2.2.2.1,f.2.2.2.2.2.2.2.2.1,p,([]:List YB),(0:Int),(0:Int),n.1,())=true:=by
   rw[Ng]
   simp only[List.length_nil]
   exact⟨by omega,by omega,by omega,b2,b3,hn,.inl trivial,.inr q3,by omega,.inl trivial,A87⟩
  exact .inr (A89 ho hd P2 hX1 hX2 q8 hn ha hdl zq0 zq0 hos0 (La (Fj tk) (Fj got)) zq3 hAt0 hcd0 of1 g1 e)
 rcases Gg e with⟨_,e⟩|⟨_,e⟩
 .
  obtain⟨pa,ab,an1,_,_,_⟩:=Az9 (Bm s) n a (p,()) zq0
  obtain⟨A1,A2,A3⟩:=Bo3 zq0 an1
  rw[show Pr (Bm s) n a (p,())=some (pa,(ab,()))from an1]at e
  simp only[Ac]at e
  rcases Gg e with⟨c,e⟩|⟨_,e⟩
  .obtain⟨B1,B2,B3,B4⟩:=A2 c
   rw[Cb _ zq2]at e
   simp only[Ac]at e
   have e:=He e
   obtain⟨p',b,y,g,zz,of1,g1,m1⟩:=run ch pa zq0 zq0
   rw[show Do pa n a d=some (p',(b,()))from of1,show Ct ch ((5:Int),()) d=some (y,g,(zz,()))from g1]at e
   simp only[Ac]at e
   rw[m1]at e
   simp only[Ac]at e
   have mv:L6 ((9:Int),(0:Int),(0:Int),([]:List YB),s.2.2.1,(0:Int),(0:Int),p,([]:List YB),a.1,a.2.1,n.1,())=true:=by
    rw[Ng]
    simp only[List.length_nil]
    exact⟨by omega,by omega,by omega,by omega,by omega,hn,.inl trivial,.inr q3,by omega,.inl trivial,ha⟩
   exact .inr (A89 ho hd P2 hX1 hX2 B1 hn ha hdl zq0 zq0 hos0 (La (Fj tk) (Fj mv)) zq3 (.inr ⟨B2,B3⟩) (.inr B4) of1 g1 e)
  .obtain⟨p',b,y,g,zz,of1,g1,m1⟩:=run ch (Bm s) zq0 zq0
   rw[show Do (Bm s) n a d=some (p',(b,()))from of1,show Ct ch ((5:Int),()) d=some (y,g,(zz,()))from g1]at e
   simp only[Ac]at e
   rw[m1]at e
   simp only[Ac]at e
   exact .inr (A89 ho hd P2 hX1 hX2 q8 hn ha hdl zq0 zq0 hos0 (Fj tk) zq3 hAt0 hcd0 of1 g1 e)
 rcases Gg e with⟨_,e⟩|⟨_,e⟩
 .
  obtain⟨⟨r1,⟨os1,⟨⟩⟩,ns1,⟨⟩⟩,k1,e⟩:=Apu e
  obtain⟨X,hr1,X1,X2,X3,X4,X5,X6⟩:=Br4 (X0:=ch) (P:=Bm s) (n:=n.1) rfl ho hd P2 hX1 hX2 q8 zq0 k1
  subst hr1
  have e:=He (He e)
  obtain⟨p',b,y,g,zz,of1,g1,m1⟩:=run X (Bm s) zq0 zq0
  rw[show Do (Bm (Ju s X (Bm s) n.1)) n a d=some (p',(b,()))from of1,show Ct (Cj (Ju s X (Bm s) n.1)) ((5:Int),()) d=some (y,g,(zz,()))from g1]at e
  simp only[Ac]at e
  rw[m1]at e
  simp only[Ac]at e
  exact .inr (A89 ho hd X1 X2 X3 q8 hn ha hdl zq0 zq0 (A88 hos0 X5) (La (Fj tk) X6) zq3 hAt0 hcd0 of1 g1 e)
 .obtain⟨p',b,y,g,zz,of1,g1,m1⟩:=run ch (Bm s) zq0 zq0
  rw[show Do (Bm s) n a d=some (p',(b,()))from of1,show Ct ch ((5:Int),()) d=some (y,g,(zz,()))from g1]at e
  simp only[Ac]at e
  rw[m1]at e
  simp only[Ac]at e
  exact .inr (A89 ho hd P2 hX1 hX2 q8 hn ha hdl zq0 zq0 hos0 (Fj tk) zq3 hAt0 hcd0 of1 g1 e)
theorem Bd4 {k n:Int} (h:Jo k n=true):n<=40:=by
 unfold Jo at h
 cases k1:k==4<;>rw[k1]at h<;>simp only[cond_true,cond_false,decide_eq_true_eq]at h
 .cases k2:k==5<;>rw[k2]at h<;>simp only[cond_true,cond_false,beq_iff_eq]at h
  .cases k3:k==6<;>rw[k3]at h<;>simp only[cond_true,cond_false,beq_iff_eq]at h<;>omega
  .omega
 .exact h
theorem Kx {f:Ap} (h:Bu f=true):Av f<=200:=by
 unfold Bu at h
 simp only[Av]
 cases hs:inR f.1 4 8 with
 |true=>
  rw[hs]at h
  simp only[cond_true,Bool.and_eq_true,beq_iff_eq,Bx]at h
  obtain⟨h1,h2,h3,h4,h5,h6,h7,h8,h9,h10⟩:=h
  have h9':=Bd4 h9
  omega
 |false=>
  rw[hs]at h
  simp only[cond_false,Bool.and_eq_true,beq_iff_eq]at h
  obtain⟨h1,h2,h3,h4,h5,h⟩:=h
  cases k1:f.1==1 with
  |true=>
   rw[k1]at h
   simp only[cond_true,Bool.and_eq_true,beq_iff_eq,Bx]at h
   omega
  |false=>
   rw[k1]at h
   simp only[cond_false]at h
   cases k2:f.1==2 with
   |true=>
    rw[k2]at h
    simp only[cond_true,Bool.and_eq_true,beq_iff_eq,Bx]at h
    omega
   |false=>
    rw[k2]at h
    simp only[cond_false,Bool.and_eq_true,beq_iff_eq,Bx]at h
    omega
theorem Bbk (b:List YB) (n:Int) (hn:0<=n) (hl:b.length<=4294967296):Co (b,()) (n,())=some ((b.take n.toNat,()),(b.drop n.toNat,())):=by
 unfold Co Ayi
 simp only[Af,Ah,Aa,Ak]
 by_cases h:(b.length:Int)<n
 .rw[if_pos h,Ai zq0,Ai zq0,Ay,Ay,Cb _ zq1]
  simp only[Ac,Ay,Int.toNat_natCast,List.take_length,Int.toNat_zero,List.drop_zero,List.drop_length]
  rw[List.take_of_length_le zq0,List.drop_eq_nil_of_le zq0]
 .rw[if_neg h,Ai zq0,Ai zq0,Ai zq0,Ay,Ay,Cb _ zq1]
  simp only[Ac,Ay,Int.toNat_natCast,List.take_length,Int.toNat_zero,List.drop_zero]
theorem Bir (b:List YB) (n:Int) (hn:0<=n) (hl:b.length<=4294967296):D6 (b,()) (n,())=some ((Wu (b.take n.toNat) 0 n).1,(b.drop n.toNat,())):=by
 unfold D6 Asb
 simp only[Af,Ah,Aa,Ak]
 rw[Bbk b n hn hl]
 simp only[Ac]
 rw[Bq4 _ _ _ zq1]
 simp only[Ac]
def WL (b:YBs):Prop:=wfB b.1/\b.1.length<=4294967296
theorem Bsd (b:YBs) (n:YI) (hn:0<=n.1) (h:WL b):Tot (fun r=>wfB r.1.1/\WL r.2) (Co b n):=by
 rw[show Co b n=_ from Bbk b.1 n.1 hn h.2]
 exact Ag ⟨Btv h.1,Bic h.1,by have:=h.2;simp;omega⟩
theorem Bpf (b:YBs) (n:YI) (hn:0<=n.1) (h:WL b):Tot (fun r=>True/\WL r.2) (D6 b n):=by
 rw[show D6 b n=_ from Bir b.1 n.1 hn h.2]
 exact Ag ⟨trivial,Bic h.1,by have:=h.2;simp;omega⟩
def GFP (b:YBs) (r:Ap×(Bool×Unit)):Prop:=r.2.1=true->Bu r.1=true/\wfB r.1.2.2.2.1/\wfB r.1.2.2.1/\Cv (D8 r.1) b.1=true
theorem Bv0 (b:YBs) (F X:Ap) (h1:wfB F.2.2.2.1) (h2:wfB F.2.2.1):Tot (GFP b) (ob (Dn F) fun r=>br (!r.1) (some (X,(false,()))) (ob (El F) fun r5=>ob (B7 r5 b) fun r6=>br (!r6.1) (some (X,(false,()))) (some (F,(true,()))))):=by
 rw[Jq,Ac]
 refine Am (fun _=>Ag (fun h=>by cases h)) (fun hf=>?_)
 have hf:Bu F=true:=by simpa using hf
 have hn:=Kx hf
 rw[Aub F zq0,Ac,Gk,Ac]
 refine Am (fun _=>Ag (fun h=>by cases h)) (fun he=>?_)
 exact Ag (fun _=>⟨hf,h1,h2,by simpa using he⟩)
theorem Blr (b:YBs) (h:WL b):Tot (GFP b) (Jm b):=by
 unfold Jm Zi
 simp only[Af,Ah,Aa,Ak]
 have w0:=Hb
 repeat' first
  |exact Bv0 _ _ _ Ku Ku
  |refine Ae (Bsd _ _ zq7 Ku) (fun r ⟨_,_⟩=>?_)
  |refine Ae (Bpf _ _ zq7 Ku) (fun r ⟨_,_⟩=>?_)
  |refine Am (fun _=>?_) (fun _=>?_)
  |rw[Ws,Ac]
end
end Go.Proofs.YthccfdmiejmbaaaGreat

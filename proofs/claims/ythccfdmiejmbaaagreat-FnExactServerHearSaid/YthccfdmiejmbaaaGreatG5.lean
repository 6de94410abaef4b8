/-
  That the program and the reference answer alike, in plain terms, and that the laws answer true.
-/
import Derived.Test.YthccfdmiejmbaaaGreatG4
namespace Go.Proofs.YthccfdmiejmbaaaGreat
open Go.RowKit
set_option linter.unusedVariables false
set_option linter.unusedSimpArgs false
set_option maxRecDepth 100000
set_option maxHeartbeats 8000000
noncomputable section
theorem Bs1 {n:Int} (h:0<=n/\n<=255):Rn [((n:Int),())]=n:=by
 unfold Rn
 simp only[List.foldl_cons,List.foldl_nil]
 rw[w64 (n:=n) zq0,show IntKind.i64.wrap ((0:Int)*256)=0 by decide,w64 zq0]
 omega
def Awx (x:Ak):Prop:=Ck (x.1,x.2.1,())=true/\(0<=x.2.2.1/\x.2.2.1<=1000000)/\(0<=x.2.2.2.1/\x.2.2.2.1<=3*x.2.2.1)
def Bv9 (a b:Ak):Prop:=eqA a.1 a.2.1 b.1 b.2.1=false
theorem Dq {l:List Ak}:Ch l=true↔l.length<=8/\(∀x∈l,Awx x)/\l.Pairwise Bv9:=by
 have hq: ∀(i:Nat) (x:Ak),l[i]? =some x->(Vg l i x=false↔Awx x/\Dz (fun _ (y:Ak)=>eqA y.1 y.2.1 x.1 x.2.1) (l.take i)=true):=fun i x hx=>by
  unfold Vg C0 Awx
  rw[A3m (q:=fun y:Ak=>eqA y.1 y.2.1 x.1 x.2.1) hx (Bld _ _)]
  simp only[Bool.not_not,Bool.not_eq_false',Bool.and_eq_true,Bt]
  constructor
  .rintro⟨h1,h2,h3,h4⟩
   rw[w64 zq0]at h3
   exact⟨⟨h1,h2,h3⟩,h4⟩
  .rintro⟨⟨h1,h2,h3⟩,h4⟩
   rw[w64 zq0]
   exact⟨h1,h2,h3,h4⟩
 unfold Ch
 simp only[Bool.and_eq_true,Bool.not_eq_true',decide_eq_false_iff_not]
 rw[Hq,List.pairwise_iff_getElem]
 constructor
 .rintro⟨h0,h⟩
  refine⟨by omega,fun x hx=>?_,fun i j hi hj hij=>?_⟩
  .obtain⟨j,hj⟩:=List.getElem?_of_mem hx
   exact((hq j x hj).1 (h j x hj)).1
  .have h1:=((hq j l[j] (List.getElem?_eq_getElem hj)).1 (h j l[j] (List.getElem?_eq_getElem hj))).2
   rw[Hq]at h1
   exact h1 i l[i] (by rw[List.getElem?_take,if_pos hij];exact List.getElem?_eq_getElem hi)
 .rintro⟨h0,h1,h2⟩
  refine⟨by omega,fun j x hj=>(hq j x hj).2 ⟨h1 x (List.mem_of_getElem? hj),Hq.2 fun i y hi=>?_⟩⟩
  rw[List.getElem?_take]at hi
  split at hi
  .rename_i hlt
   obtain⟨k1,k2⟩:=List.getElem?_eq_some_iff.1 hi
   obtain⟨k3,k4⟩:=List.getElem?_eq_some_iff.1 hj
   have:=h2 i j k1 k3 hlt
   rw[k2,k4]at this
   exact this
  .cases hi
theorem A2r {l:List Ak} {a:A6} (h:0<=C0 l a): ∃x,l[(C0 l a).toNat]? =some x/\x.1=a.1/\x.2.1=a.2.1:=by
 unfold C0 L9 at h ⊢
 cases hf:Id (fun _ (x:Ak)=>eqA x.1 x.2.1 a.1 a.2.1) l 0 with
 |none=>rw[hf]at h;simp at h
 |some k=>
  obtain⟨j,y,hk,h2,h3,_⟩:=Tx hf
  have hk:k=j:=by omega
  subst hk
  have h3:=Aru.1 h3
  exact⟨y,by simpa using h2,h3.1,h3.2⟩
theorem Bi3 {l:List Ak} {a:A6} (h:C0 l a<0): ∀x∈l,eqA x.1 x.2.1 a.1 a.2.1=false:=fun x hx=>by
 obtain⟨i,hi⟩:=List.getElem?_of_mem hx
 cases hs:eqA x.1 x.2.1 a.1 a.2.1 with
 |false=>rfl
 |true=>
  have:=(Ahz (q:=fun y:Ak=>eqA y.1 y.2.1 a.1 a.2.1) hi hs).1
  unfold C0 at h
  omega
theorem Bl9 {l:List Ak} {i:Nat} {x y:Ak} (h:Ch l=true) (hx:l[i]? =some x) (h1:y.1=x.1) (h2:y.2.1=x.2.1) (hy:Awx y):Ch (l.set i y)=true:=by
 obtain⟨q1,q2,q3⟩:=Dq.1 h
 refine Dq.2 ⟨by simpa using q1,fun z hz=>?_,?_⟩
 .rcases List.mem_or_eq_of_mem_set hz with hz|hz
  .exact q2 z hz
  .rw[hz];exact hy
 .rw[List.pairwise_iff_getElem]at q3 ⊢
  intro a b ha hb hab
  have ha':a<l.length:=by simpa using ha
  have hb':b<l.length:=by simpa using hb
  have hq:=q3 a b ha' hb' hab
  obtain⟨hi,hxi⟩:=List.getElem?_eq_some_iff.1 hx
  have e: ∀(j:Nat) (hj:j<(l.set i y).length) (hj':j<l.length),(l.set i y)[j].1=l[j].1/\(l.set i y)[j].2.1=l[j].2.1:=fun j hj hj'=>by
   rw[List.getElem_set]
   split
   .rename_i hij
    subst hij
    rw[hxi]
    exact⟨h1,h2⟩
   .exact⟨rfl,rfl⟩
  unfold Bv9 at hq ⊢
  rw[(e a ha ha').1,(e a ha ha').2,(e b hb hb').1,(e b hb hb').2]
  exact hq
def I9:List Ak->Int
 |[]=>0
 |x::r=>x.2.2.2.1+I9 r
theorem Bg7: ∀ {a b:List Ak},I9 (a++b)=I9 a+I9 b
 |[],b=>by simp[I9]
 |x::a,b=>by simp only[List.cons_append,I9,Bg7];omega
theorem A2s: ∀ {l:List Ak} {i:Nat} {x y:Ak},l[i]? =some x->I9 (l.set i y)=I9 l-x.2.2.2.1+y.2.2.2.1
 |[],i,x,y,h=>by simp at h
 |a::r,0,x,y,h=>by
  simp at h;subst h
  simp only[List.set_cons_zero,I9];omega
 |a::r,i+1,x,y,h=>by
  have:=A2s (l:=r) (i:=i) (x:=x) (y:=y) (by simpa using h)
  simp only[List.set_cons_succ,I9];omega
def Aem (l:List Ak) (a:A6) (n:Int):List Ak:=
 if Ch l=true/\Ck a=true/\inR n 0 1000000=true then
  if C0 l a<0 then(if l.length=8 then l else l++[(a.1,a.2.1,n,(0:Int),())])
  else match l[(C0 l a).toNat]? with
   |some x=>l.set (C0 l a).toNat (x.1,x.2.1,(if x.2.2.1+n>1000000 then 1000000 else x.2.2.1+n),x.2.2.2.1,())
   |none=>l
 else l
theorem Bx4 {l:List Ak} {a:A6} {n:Int} (h:Ch l=true):Ch (Aem l a n)=true/\I9 (Aem l a n)=I9 l:=by
 unfold Aem
 split
 .rename_i hc
  obtain⟨c1,c2,c3⟩:=hc
  have c3:=Bt.1 c3
  obtain⟨q1,q2,q3⟩:=Dq.1 h
  split
  .rename_i hneg
   split
   .exact⟨h,rfl⟩
   .refine⟨Dq.2 ⟨by simp;omega,fun x hx=>?_,?_⟩,by rw[Bg7];simp[I9]⟩
    .rcases List.mem_append.1 hx with hx|hx
     .exact q2 x hx
     .simp only[List.mem_singleton]at hx
      rw[hx]
      exact⟨c2,c3,by simp;omega⟩
    .refine List.pairwise_append.2 ⟨q3,List.pairwise_singleton _ _,fun x hx y hy=>?_⟩
     simp only[List.mem_singleton]at hy
     subst hy
     exact Bi3 hneg x hx
  .rename_i hpos
   obtain⟨x,hx,_,_⟩:=A2r (l:=l) (a:=a) zq0
   rw[hx]
   obtain⟨g1,g2,g3⟩:=q2 x (List.mem_of_getElem? hx)
   refine⟨Bl9 h hx rfl rfl ⟨g1,?_,?_⟩,?_⟩
   .dsimp only;split<;>omega
   .dsimp only;split<;>omega
   .rw[A2s hx];dsimp only;omega
 .exact⟨h,rfl⟩
theorem Bwa (l:List Ak) (a:A6) (n:Int):(Aem l a n).length<=l.length+1:=by
 unfold Aem
 split
 .split
  .split<;>simp
  .split<;>simp
 .omega
def Wn (l:List Ak) (a:A6) (n:Int):Option (List Ak):=
 if Ch l=true/\0<=C0 l a then
  match l[(C0 l a).toNat]? with
  |some x=>if inR n 0 (3*x.2.2.1-x.2.2.2.1)=true then some (l.set (C0 l a).toNat (x.1,x.2.1,x.2.2.1,x.2.2.2.1+n,()))else none
  |none=>none
 else none
theorem Bwb {l r:List Ak} {a:A6} {n:Int} (h:Wn l a n=some r):Ch l=true/\Ch r=true/\I9 r=I9 l+n/\r.length=l.length:=by
 unfold Wn at h
 split at h
 .rename_i hc
  split at h
  .rename_i x hx
   split at h
   .rename_i hn
    cases h
    have hn:=Bt.1 hn
    obtain⟨q1,q2,q3⟩:=Dq.1 hc.1
    obtain⟨g1,g2,g3⟩:=q2 x (List.mem_of_getElem? hx)
    refine⟨hc.1,Bl9 hc.1 hx rfl rfl ⟨g1,g2,?_⟩,?_,by simp⟩
    .dsimp only;omega
    .rw[A2s hx];dsimp only;omega
   .cases h
  .cases h
 .cases h
theorem Ah2 {l:List Ak} {a:A6} (h:0<=C0 l a): ∃x,l[(C0 l a).toNat]? =some x/\idx l (C0 l a)=some x:=by
 obtain⟨x,hx,_⟩:=A2r h
 refine⟨x,hx,?_⟩
 unfold idx;rw[if_pos h];exact hx
theorem Bx5 {l:List Ak} {n:Int} {x y:Ak} (h:0<=n) (hx:l[n.toNat]? =some x):idx (l.set n.toNat y) n=some y:=by
 unfold idx
 rw[if_pos h,List.getElem?_set_self (List.getElem?_eq_some_iff.1 hx).1]
theorem B0b (l:List Ak) (a:A6) (n:YI) (h:l.length<=1000):Avi (l,()) a n=some (Aem l a n.1,()):=by
 unfold Avi A6h Aem
 simp only[Ad,Ae,Aa,Ag,List.length_nil,List.nil_append,Nat.zero_add]
 rw[Ai zq0,Ar,Wl l zq0,Ab,Lz,Ab,C4,Ab,A3n l a zq0,Ab]
 by_cases hc:Ch l=true/\Ck a=true/\inR n.1 0 1000000=true
 .obtain⟨c1,c2,c3⟩:=hc
  have c4:=Bt.1 c3
  rw[if_pos ⟨c1,c2,c3⟩,c1,c2,c3]
  simp only[Bool.not_true,Aj]
  by_cases hneg:C0 l a<0
  .rw[if_pos hneg,Ai hneg,Ay]
   by_cases h8:l.length=8
   .have:((l.length:Int)==8)=true:=by simp;omega
    rw[if_pos h8,this,Ay]
   .have:((l.length:Int)==8)=false:=by simp;omega
    rw[if_neg h8,this,Aj,Ai zq1,Ar]
  .obtain⟨x,hx,hi⟩:=Ah2 (l:=l) (a:=a) zq0
   obtain⟨_,q2,_⟩:=Dq.1 c1
   obtain⟨_,g2,_⟩:=q2 x (List.mem_of_getElem? hx)
   rw[if_neg hneg,Bk hneg,Aj,hi,hx]
   simp only[Ab]
   rw[Bx5 zq0 hx]
   simp only[Ab]
   rw[w64 zq0]
   by_cases hm:x.2.2.1+n.1>1000000
   .rw[Ai hm,Ay,if_pos hm,List.set_set]
   .rw[Bk hm,Aj,if_neg hm]
 .rw[if_neg hc]
  cases e1:Ch l with
  |false=>rfl
  |true=>
   cases e2:Ck a with
   |false=>rfl
   |true=>
    cases e3:inR n.1 0 1000000 with
    |false=>rfl
    |true=>exact(hc ⟨e1,e2,e3⟩).elim
theorem Bs2 (l:List Ak) (a:A6) (h:l.length<=1000): ∃r,N3 (l,()) a=some (r,())/\(Ch l=true-> ∀x,0<=C0 l a->l[(C0 l a).toNat]? =some x->r=3*x.2.2.1-x.2.2.2.1):=by
 unfold N3 Adr
 simp only[Ad,Ae,Aa]
 rw[A3n l a zq0,Ab,Wl l zq0,Ab]
 cases e1:Ch l with
 |false=>exact⟨_,rfl,fun h=>(by cases h)⟩
 |true=>
  simp only[Bool.not_true,Aj]
  by_cases hneg:C0 l a<0
  .rw[Ai hneg];exact⟨_,rfl,fun _ x h=>by omega⟩
  .obtain⟨x,hx,hi⟩:=Ah2 (l:=l) (a:=a) zq0
   obtain⟨_,q2,_⟩:=Dq.1 e1
   obtain⟨_,g2,g3⟩:=q2 x (List.mem_of_getElem? hx)
   rw[Bk hneg,Aj,hi]
   simp only[Ab]
   rw[w64 (n:=3*x.2.2.1) zq0,w64 zq0]
   refine⟨_,rfl,fun _ y _ hy=>?_⟩
   rw[hx]at hy;cases hy;rfl
theorem Bx6 (l:List Ak) (a:A6) (n:YI) (h:l.length<=1000):A1t (l,()) a n=some (match Wn l a n.1 with|some r=>((r,()),(true,()))|none=>((l,()),(false,()))):=by
 obtain⟨rm,r1,r2⟩:=Bs2 l a h
 unfold A1t Az7
 simp only[Ad,Ae,Aa,Ag,List.length_nil,List.nil_append,Nat.zero_add]
 rw[Ai zq0,Ar,A3n l a zq0,Ab,Wl l zq0,Ab,r1,Ab,C4,Ab]
 unfold Wn
 by_cases hneg:C0 l a<0
 .rw[Ai hneg,Ay,if_neg zq0]
 .rw[Bk hneg,Aj]
  cases e1:Ch l with
  |false=>rw[if_neg zq3];rfl
  |true=>
   obtain⟨x,hx,hi⟩:=Ah2 (l:=l) (a:=a) zq0
   obtain⟨_,q2,_⟩:=Dq.1 e1
   obtain⟨_,g2,g3⟩:=q2 x (List.mem_of_getElem? hx)
   have hr:=r2 e1 x zq0 hx
   subst hr
   rw[if_pos ⟨rfl,by omega⟩,hx,hi]
   simp only[Bool.not_true,Aj,Ab]
   cases hn:inR n.1 0 (3*x.2.2.1-x.2.2.2.1)with
   |false=>rfl
   |true=>
    have:=Bt.1 hn
    rw[w64 zq0]
    rfl
def Awy (s r:Al) (os:List Au) (ns:List Am):Prop:=C8 r=true/\It os/\Ht ns/\r.1=s.1/\r.2.2.1=s.2.2.1/\Cw r=false/\r.2.1=s.2.1
theorem B1v {s:Al} {X:Aq} {P p':Bd} {n:YI} {a:A6} {d:YBs} {os:List Au} {ns:List Am} {b:Bool} {y:Aq} {g:As} {zz:Int} {m:Am} (hs:C8 s=true) (hd:Cw s=false) (hX:Co X=true) (h1:X.1=1) (h2:X.2.1=(Cq s).2.1) (hP:Ei P=true) (hn:0<=n.1/\n.1<=1000000) (ha:Ck a=true) (hdl:d.1.length<=12)
  (hb:A8 P<=4294967296) (hc:Aw X<=60000000) (hos:It os) (hns:Ht ns) (hne:ns≠[]) (hAt:(P.1=(Bp s).1/\P.2.1=(Bp s).2.1)\/(P.1=a.1/\P.2.1=a.2.1)) (hcd:P.2.2.1=[]\/(Bp s).2.2.1.length>0)
  (o:Df P n a d=some (p',(b,()))) (e:Cj X ((5:Int),()) d=some (y,g,(zz,()))):
  (b=false->Awy s (Jo s X P n.1) os ns)/\(zz≠0->Awy s (Jo s X P n.1) os ns)/\
  (b=true->zz=0->Awy s (Jo s y p' n.1) (os++[(a.1,a.2.1,g.1,g.2.1,g.2.2.1,g.2.2.2.1,g.2.2.2.2.1,g.2.2.2.2.2.1,g.2.2.2.2.2.2.1,g.2.2.2.2.2.2.2.1,g.2.2.2.2.2.2.2.2.1,g.2.2.2.2.2.2.2.2.2.1,g.2.2.2.2.2.2.2.2.2.2.1,())]) (ns++[Gl y g])):=by
 obtain⟨d,⟨⟩⟩:=d
 dsimp only at hdl
 obtain⟨O1,O2⟩:=Bv4 hb o
 obtain⟨y',g',zz',e1,_,e',E1,E2,E3,E4,E5⟩:=Gf X 5 d zq0
 have ee:=e
 rw[show Cj X ((5:Int),()) (d,())=_ from e1]at ee
 simp only[Option.some.injEq,Prod.mk.injEq,and_true]at ee
 obtain⟨rfl,rfl,rfl⟩:=ee
 have h0:=Bqa hs hd hX h1 h2 hP hn
 have base:Awy s (Jo s X P n.1) os ns:=⟨h0,hos,hns,rfl,rfl,hd,rfl⟩
 refine⟨fun _=>base,fun _=>base,fun hb1 hz=>?_⟩
 .obtain⟨a1,a2,a3,a4,a5,l,u,a6,a7⟩:=O2 hb1
  obtain⟨_,c2,c3,c4,c5,c6⟩:=E5 hz
  have hg1:g'.1=5:=by rw[c5];unfold Ha;rw[c6];rfl
  have hgo:Bm g'=true:=by rw[c5];exact Ac9 c6
  have hy1:y'.1=1:=by rw[E1];exact h1
  have hy2:y'.2.1=(Cq s).2.1:=by rw[E1];exact h2
  refine⟨Bqa hs hd c2 hy1 hy2 a2 hn,Bbx hos (fun x hx=>?_),K4 hns (Ey (Aww c2)),rfl,rfl,hd,rfl⟩
  rw[List.mem_singleton.1 hx]
  exact⟨hgo,a1⟩
theorem Bby {s r:Al} {X:Aq} {P p':Bd} {n:YI} {a:A6} {d:YBs} {os os2:List Au} {ns ns2:List Am} {b k c1 c2:Bool} {y:Aq} {g:As} {zz:Int} (hs:C8 s=true) (hd:Cw s=false) (hX:Co X=true) (h1:X.1=1) (h2:X.2.1=(Cq s).2.1) (hP:Ei P=true) (hn:0<=n.1/\n.1<=1000000) (ha:Ck a=true) (hdl:d.1.length<=12)
  (hb:A8 P<=4294967296) (hc:Aw X<=60000000) (hos:It os) (hns:Ht ns) (hne:ns≠[]) (hAt:(P.1=(Bp s).1/\P.2.1=(Bp s).2.1)\/(P.1=a.1/\P.2.1=a.2.1)) (hcd:P.2.2.1=[]\/(Bp s).2.2.1.length>0)
  (o:Df P n a d=some (p',(b,()))) (e:Cj X ((5:Int),()) d=some (y,g,(zz,())))
  (h:br (!b) (some (Jo s X P n.1,(os,()),(ns,()),(false,()))) (br (zz != (0:Int)) (some (Jo s X P n.1,(os,()),(ns,()),(false,()))) (chk c1 (chk c2 (some (Jo s y p' n.1,(os++[(a.1,a.2.1,g.1,g.2.1,g.2.2.1,g.2.2.2.1,g.2.2.2.2.1,g.2.2.2.2.2.1,g.2.2.2.2.2.2.1,g.2.2.2.2.2.2.2.1,g.2.2.2.2.2.2.2.2.1,g.2.2.2.2.2.2.2.2.2.1,g.2.2.2.2.2.2.2.2.2.2.1,())],()),(ns++[Gl y g],()),(true,()))))))=some (r,(os2,()),(ns2,()),(k,()))):Awy s r os2 ns2:=by
 obtain⟨T1,T2,T3⟩:=B1v hs hd hX h1 h2 hP hn ha hdl hb hc hos hns hne hAt hcd o e (m:=Gl y g)
 rcases Fr h with⟨q,h⟩|⟨q,h⟩
 .have q:b=false:=by simpa using q
  simp only[Option.some.injEq,Prod.mk.injEq,and_true]at h
  obtain⟨rfl,rfl,rfl,rfl⟩:=h
  exact T1 q
 have q:b=true:=by simpa using q
 rcases Fr h with⟨q2,h⟩|⟨q2,h⟩
 .simp only[Option.some.injEq,Prod.mk.injEq,and_true]at h
  obtain⟨rfl,rfl,rfl,rfl⟩:=h
  exact T2 (by simpa using q2)
 .have h:=Gm (Gm h)
  simp only[Option.some.injEq,Prod.mk.injEq,and_true]at h
  obtain⟨rfl,rfl,rfl,rfl⟩:=h
  exact T3 q (by simpa using q2)
theorem B2r (s:Al) (h:Ap s<=8388608) (ho:C8 s=true) (hd:Cw s=false) {r:Al} {os:List Au} {ns:List Am} (e:Ky s=some (r,(os,()),(ns,()))):(r=s/\os=[]/\ns=[])\/Awy s r os ns:=by
 have hch:=Ael s
 have hck:=En (Cq s)
 obtain⟨q1,q2,q3,q4,q5,q6,q7,q8,q9⟩:=Abx ho hd
 have none: ∀ {r':Al} {os':List Au} {ns':List Am},some (s,(([]:List Au),()),(([]:List Am),()))=some (r',(os',()),(ns',()))->(r'=s/\os'=[]/\ns'=[]):=fun h=>by
  simp only[Option.some.injEq,Prod.mk.injEq,and_true]at h
  exact⟨h.1.symm,h.2.1.symm,h.2.2.symm⟩
 obtain⟨c',f,z,k1,_,K1,K2,K3⟩:=Bbr (Cq s) zq0
 have hyk:=En c'
 unfold Ky Aea at e
 simp only[Ad,Ae,Aa,Ag]at e
 rw[Nm s zq0,Xr s zq0]at e
 have hd':s.2.2.2.2.2.2.2.2.2.2.2.2.2.2.2.2.2.2.2.2.2.2.2.1=false:=hd
 simp only[Ab,ho,Bool.not_true,Aj]at e
 rw[Ce hd']at e
 rcases Fr e with⟨_,e⟩|⟨_,e⟩
 .exact .inl (none e)
 rw[show Ahs _=some (c',f,(z,()))from k1]at e
 simp only[Ab]at e
 rcases Fr e with⟨_,e⟩|⟨hz,e⟩
 .exact .inl (none e)
 have hz:z=0:=by simpa using hz
 obtain⟨F1,F2,F3,F4,F5,F6,F7,F8⟩:=Bv6 (K3 hz)
 rw[Ie c' f zq0 zq0]at e
 simp only[Ab,Option.some.injEq,Prod.mk.injEq,and_true]at e
 obtain⟨rfl,rfl,rfl⟩:=e
 have hpa:Ck ((Bp s).1,(Bp s).2.1,())=true:=by
  unfold Ei at q8
  simp only[Bool.and_eq_true]at q8
  exact q8.1
 have hX2:c'.2.1=(Cq s).2.1:=by
  obtain⟨e',E1,_⟩:=K3 hz
  rw[E1];rfl
 have hT:=Bx3 (p:=Bp s) ho hd F1 F2 hX2 q8
 have ho1:It [((Bp s).1,(Bp s).2.1,f.1,f.2.1,f.2.2.1,f.2.2.2.1,f.2.2.2.2.1,f.2.2.2.2.2.1,f.2.2.2.2.2.2.1,f.2.2.2.2.2.2.2.1,f.2.2.2.2.2.2.2.2.1,f.2.2.2.2.2.2.2.2.2.1,f.2.2.2.2.2.2.2.2.2.2.1,())]:=fun o hm=>by
  rw[List.mem_singleton.1 hm]
  exact⟨F4,hpa⟩
 have hn1:=Ey F5
 clear K1 K2 K3 k1 F1 F2 F3 F4 F5 F6 F7 F8
 exact .inr ⟨hT,ho1,hn1,rfl,rfl,hd,rfl⟩
theorem Bwc (s:Al) (n:YI) (a:A6) (f:As) (d:YBs) (h:Ap s<=8388608) (h2:A5 f<=8388608) (w1:wfB f.2.2.2.1) (w2:wfB (Cq s).2.1) (ho:C8 s=true) (hd:Cw s=false) (hdl:d.1.length<=12)
  {r:Al} {os:List Au} {ns:List Am} {k:Bool} (e:Jg s n a f d=some (r,(os,()),(ns,()),(k,()))):(ns=[]/\r=s/\os=[]/\k=false)\/Awy s r os ns:=by
 have hch:=Ael s
 have hpa:=A2j s
 have hck:=En (Cq s)
 have hsl:s.2.2.1.length<=Ap s:=by simp only[Ap];omega
 have htl:=Wm 0 f
 obtain⟨q1,q2,q3,q4,q5,q6,q7,q8,q9⟩:=Abx ho hd
 obtain⟨ch,p,z,o1,_,O1,O2,O3,O4⟩:=A5v (Cq s) n f zq0 zq0 w1 w2
 obtain⟨ky,kb,y1,_,y3,y4⟩:=Bg1 (Cq s) (f.2.2.2.2.2.2.2.1,()) zq0
 have hchk:=En ch
 have none: ∀ {r':Al} {os':List Au} {ns':List Am} {k':Bool},some (s,(([]:List Au),()),(([]:List Am),()),(false,()))=some (r',(os',()),(ns',()),(k',()))->(ns'=[]/\r'=s/\os'=[]/\k'=false):=fun h=>by
  simp only[Option.some.injEq,Prod.mk.injEq,and_true]at h
  exact⟨h.2.2.1.symm,h.1.symm,h.2.1.symm,h.2.2.2.symm⟩
 unfold Jg Aay at e
 simp only[Ad,Ae,Aa,Ag]at e
 rw[Nm s zq0,Xr s zq0,Ic]at e
 have hd':s.2.2.2.2.2.2.2.2.2.2.2.2.2.2.2.2.2.2.2.2.2.2.2.1=false:=hd
 simp only[Ab,ho,Bool.not_true,Aj]at e
 rw[Ce hd']at e
 cases ha:Ck a with
 |false=>rw[ha]at e;exact .inl (none e)
 |true=>
 rw[ha]at e
 simp only[Bool.not_true,Aj]at e
 rw[show Ph (Cq s) n f=some (ch,(p,()),(z,()))from o1,show Abb (Cq s) (f.2.2.2.2.2.2.2.1,())=some ((ky,()),(kb,()))from y1,Vh _ _ zq0]at e
 simp only[Ab]at e
 by_cases hz:z=0
 case neg=>
  rw[Dj (by simpa using hz)]at e
  exact .inl (none e)
 case pos=>
 subst hz
 rw[Ce (by rfl),Ars _ _ _ zq0 zq0 zq0]at e
 simp only[Ab]at e
 obtain⟨P1,P2,hn,P4,P5,P6,P7,P8,P9,P10,_⟩:=O4 rfl
 obtain⟨b1,b2,b3,b4,b5⟩:=Vj P4 P5
 have hX1:ch.1=1:=by rw[P7];exact q6
 have hX2:ch.2.1=(Cq s).2.1:=P8
 have tk:Kf (Hf ky s.2.2.1 (Dx 0 f))=true:=A79 y4 (.inr q3) zq0
 have hos0:It []:=fun _ h=>by cases h
 have hAt0:((Bp s).1=(Bp s).1/\(Bp s).2.1=(Bp s).2.1)\/((Bp s).1=a.1/\(Bp s).2.1=a.2.1):=.inl ⟨rfl,rfl⟩
 have hcd0:(Bp s).2.2.1=[]\/(Bp s).2.2.1.length>0:=by
  cases (Bp s).2.2.1 with
  |nil=>exact .inl rfl
  |cons _ _=>exact .inr zq3
 have run: ∀(X:Aq) (P:Bd),A8 P<=4294967296->Aw X<=60000000-> ∃p' b y g zz,Df P n a d=some (p',(b,()))/\Cj X ((5:Int),()) d=some (y,g,(zz,()))/\Ia y g=some (Gl y g):=fun X P h1 h2=>by
  obtain⟨p',b,of1,_⟩:=L3 P n a d h1
  obtain⟨y,g,zz,g1,_,e',GS1,GS2,GS3,_⟩:=Gf X 5 d.1 zq0
  have hyk:=En y
  exact⟨p',b,y,g,zz,of1,g1,Ie y g zq0 zq0⟩
 rcases Fr e with⟨_,e⟩|⟨_,e⟩
 .
  rw[B0 _ zq2]at e
  simp only[Ab]at e
  have e:=Gm e
  obtain⟨p',b,y,g,zz,of1,g1,m1⟩:=run ch (Bp s) zq0 zq0
  rw[show Df (Bp s) n a d=some (p',(b,()))from of1,show Cj ch ((5:Int),()) d=some (y,g,(zz,()))from g1]at e
  simp only[Ab]at e
  rw[m1]at e
  simp only[Ab]at e
  have got:Kf ((6:Int),(0:Int),(0:Int),([]:List YB),s.2.2.1,f.2.2.2.2.2.2.2.1,f.2.2.2.2.2.2.2.2.1,p,([]:List YB),(0:Int),(0:Int),n.1,())=true:=by
   rw[Kp]
   simp only[List.length_nil]
   exact⟨by omega,by omega,by omega,b2,b3,hn,.inl trivial,.inr q3,by omega,.inl trivial,Bbv⟩
  exact .inr (Bby ho hd P2 hX1 hX2 q8 hn ha hdl zq0 zq0 hos0 (K4 (Ey tk) (Ey got)) zq3 hAt0 hcd0 of1 g1 e)
 rcases Fr e with⟨_,e⟩|⟨_,e⟩
 .
  obtain⟨pa,ab,an1,_,_,_⟩:=A2o (Bp s) n a (p,()) zq0
  obtain⟨A1,A2,A3⟩:=Bsz zq0 an1
  rw[show Qn (Bp s) n a (p,())=some (pa,(ab,()))from an1]at e
  simp only[Ab]at e
  rcases Fr e with⟨c,e⟩|⟨_,e⟩
  .obtain⟨B1,B2,B3,B4⟩:=A2 c
   rw[B0 _ zq2]at e
   simp only[Ab]at e
   have e:=Gm e
   obtain⟨p',b,y,g,zz,of1,g1,m1⟩:=run ch pa zq0 zq0
   rw[show Df pa n a d=some (p',(b,()))from of1,show Cj ch ((5:Int),()) d=some (y,g,(zz,()))from g1]at e
   simp only[Ab]at e
   rw[m1]at e
   simp only[Ab]at e
   have mv:Kf ((9:Int),(0:Int),(0:Int),([]:List YB),s.2.2.1,(0:Int),(0:Int),p,([]:List YB),a.1,a.2.1,n.1,())=true:=by
    rw[Kp]
    simp only[List.length_nil]
    exact⟨by omega,by omega,by omega,by omega,by omega,hn,.inl trivial,.inr q3,by omega,.inl trivial,ha⟩
   exact .inr (Bby ho hd P2 hX1 hX2 B1 hn ha hdl zq0 zq0 hos0 (K4 (Ey tk) (Ey mv)) zq3 (.inr ⟨B2,B3⟩) (.inr B4) of1 g1 e)
  .obtain⟨p',b,y,g,zz,of1,g1,m1⟩:=run ch (Bp s) zq0 zq0
   rw[show Df (Bp s) n a d=some (p',(b,()))from of1,show Cj ch ((5:Int),()) d=some (y,g,(zz,()))from g1]at e
   simp only[Ab]at e
   rw[m1]at e
   simp only[Ab]at e
   exact .inr (Bby ho hd P2 hX1 hX2 q8 hn ha hdl zq0 zq0 hos0 (Ey tk) zq3 hAt0 hcd0 of1 g1 e)
 rcases Fr e with⟨_,e⟩|⟨_,e⟩
 .
  obtain⟨⟨r1,⟨os1,⟨⟩⟩,ns1,⟨⟩⟩,k1,e⟩:=Arx e
  obtain⟨X,hr1,X1,X2,X3,X4,X5,X6⟩:=Bv5 (X0:=ch) (P:=Bp s) (n:=n.1) rfl ho hd P2 hX1 hX2 q8 zq0 k1
  subst hr1
  have e:=Gm (Gm e)
  obtain⟨p',b,y,g,zz,of1,g1,m1⟩:=run X (Bp s) zq0 zq0
  rw[show Df (Bp (Jo s X (Bp s) n.1)) n a d=some (p',(b,()))from of1,show Cj (Cq (Jo s X (Bp s) n.1)) ((5:Int),()) d=some (y,g,(zz,()))from g1]at e
  simp only[Ab]at e
  rw[m1]at e
  simp only[Ab]at e
  exact .inr (Bby ho hd X1 X2 X3 q8 hn ha hdl zq0 zq0 (Bbx hos0 X5) (K4 (Ey tk) X6) zq3 hAt0 hcd0 of1 g1 e)
 .obtain⟨p',b,y,g,zz,of1,g1,m1⟩:=run ch (Bp s) zq0 zq0
  rw[show Df (Bp s) n a d=some (p',(b,()))from of1,show Cj ch ((5:Int),()) d=some (y,g,(zz,()))from g1]at e
  simp only[Ab]at e
  rw[m1]at e
  simp only[Ab]at e
  exact .inr (Bby ho hd P2 hX1 hX2 q8 hn ha hdl zq0 zq0 hos0 (Ey tk) zq3 hAt0 hcd0 of1 g1 e)
theorem Bg8 {k n:Int} (h:Ji k n=true):n<=40:=by
 unfold Ji at h
 cases k1:k==4<;>rw[k1]at h<;>simp only[cond_true,cond_false,decide_eq_true_eq]at h
 .cases k2:k==5<;>rw[k2]at h<;>simp only[cond_true,cond_false,beq_iff_eq]at h
  .cases k3:k==6<;>rw[k3]at h<;>simp only[cond_true,cond_false,beq_iff_eq]at h<;>omega
  .omega
 .exact h
theorem Kq {f:As} (h:Bm f=true):A5 f<=200:=by
 unfold Bm at h
 simp only[A5]
 cases hs:inR f.1 4 8 with
 |true=>
  rw[hs]at h
  simp only[cond_true,Bool.and_eq_true,beq_iff_eq,Bt]at h
  obtain⟨h1,h2,h3,h4,h5,h6,h7,h8,h9,h10⟩:=h
  have h9':=Bg8 h9
  omega
 |false=>
  rw[hs]at h
  simp only[cond_false,Bool.and_eq_true,beq_iff_eq]at h
  obtain⟨h1,h2,h3,h4,h5,h⟩:=h
  cases k1:f.1==1 with
  |true=>
   rw[k1]at h
   simp only[cond_true,Bool.and_eq_true,beq_iff_eq,Bt]at h
   omega
  |false=>
   rw[k1]at h
   simp only[cond_false]at h
   cases k2:f.1==2 with
   |true=>
    rw[k2]at h
    simp only[cond_true,Bool.and_eq_true,beq_iff_eq,Bt]at h
    omega
   |false=>
    rw[k2]at h
    simp only[cond_false,Bool.and_eq_true,beq_iff_eq,Bt]at h
    omega
theorem Bee (b:List YB) (n:Int) (hn:0<=n) (hl:b.length<=4294967296):Cg (b,()) (n,())=some ((b.take n.toNat,()),(b.drop n.toNat,())):=by
 unfold Cg A0j
 simp only[Ad,Ae,Aa,Ag]
 by_cases h:(b.length:Int)<n
 .rw[if_pos h,Ai zq0,Ai zq0,Ar,Ar,B0 _ zq1]
  simp only[Ab,Ar,Int.toNat_natCast,List.take_length,Int.toNat_zero,List.drop_zero,List.drop_length]
  rw[List.take_of_length_le zq0,List.drop_eq_nil_of_le zq0]
 .rw[if_neg h,Ai zq0,Ai zq0,Ai zq0,Ar,Ar,B0 _ zq1]
  simp only[Ab,Ar,Int.toNat_natCast,List.take_length,Int.toNat_zero,List.drop_zero]
theorem Bma (b:List YB) (n:Int) (hn:0<=n) (hl:b.length<=4294967296):Dt (b,()) (n,())=some ((Xu (b.take n.toNat) 0 n).1,(b.drop n.toNat,())):=by
 unfold Dt At6
 simp only[Ad,Ae,Aa,Ag]
 rw[Bee b n hn hl]
 simp only[Ab]
 rw[Bu9 _ _ _ zq1]
 simp only[Ab]
def WL (b:YBs):Prop:=wfB b.1/\b.1.length<=4294967296
theorem Bwd (b:YBs) (n:YI) (hn:0<=n.1) (h:WL b):Tot (fun r=>wfB r.1.1/\WL r.2) (Cg b n):=by
 rw[show Cg b n=_ from Bee b.1 n.1 hn h.2]
 exact Gc ⟨Bxz h.1,Bl2 h.1,by have:=h.2;simp;omega⟩
theorem Bs3 (b:YBs) (n:YI) (hn:0<=n.1) (h:WL b):Tot (fun r=>True/\WL r.2) (Dt b n):=by
 rw[show Dt b n=_ from Bma b.1 n.1 hn h.2]
 exact Gc ⟨trivial,Bl2 h.1,by have:=h.2;simp;omega⟩
def GFP (b:YBs) (r:As×(Bool×Unit)):Prop:=r.2.1=true->Bm r.1=true/\wfB r.1.2.2.2.1/\wfB r.1.2.2.1/\Cm (D8 r.1) b.1=true
theorem B0c (b:YBs) (F X:As) (h1:wfB F.2.2.2.1) (h2:wfB F.2.2.1):Tot (GFP b) (ob (Dd F) fun r=>br (!r.1) (some (X,(false,()))) (ob (Ea F) fun r5=>ob (Ca r5 b) fun r6=>br (!r6.1) (some (X,(false,()))) (some (F,(true,()))))):=by
 rw[Jj,Ab]
 refine Ff (fun _=>Gc (fun h=>by cases h)) (fun hf=>?_)
 have hf:Bm F=true:=by simpa using hf
 have hn:=Kq hf
 rw[Awm F zq0,Ab,Ge,Ab]
 refine Ff (fun _=>Gc (fun h=>by cases h)) (fun he=>?_)
 exact Gc (fun _=>⟨hf,h1,h2,by simpa using he⟩)
theorem Bpd (b:YBs) (h:WL b):Tot (GFP b) (Pe b):=by
 unfold Pe Aam
 simp only[Ad,Ae,Aa,Ag]
 have w0:=Bp6
 repeat' first
  |exact B0c _ _ _ (by assumption) (by assumption)
  |refine Bbw (Bwd _ _ zq7 (by assumption)) (fun r ⟨_,_⟩=>?_)
  |refine Bbw (Bs3 _ _ zq7 (by assumption)) (fun r ⟨_,_⟩=>?_)
  |refine Ff (fun _=>?_) (fun _=>?_)
  |rw[Xs,Ab]
end
end Go.Proofs.YthccfdmiejmbaaaGreat

/-
  That the program and the reference answer alike, in plain terms, and that the laws answer true.
-/
import Derived.Test.YthccfdmiejmbaaaGreatG5
namespace Go.Proofs.YthccfdmiejmbaaaGreat
open Go.RowKit
set_option linter.unusedVariables false
set_option linter.unusedSimpArgs false
set_option maxRecDepth 100000
set_option maxHeartbeats 8000000
noncomputable section
def Bs4 (l:List Ak) (a:A6):Int:=
 if Ch l=true then(if C0 l a<0 then 0 else match l[(C0 l a).toNat]? with|some x=>3*x.2.2.1-x.2.2.2.1|none=>0)else 0
theorem B0d (l:List Ak) (a:A6) (h:l.length<=1000):Kx (l,()) a=some (Bs4 l a,()):=by
 unfold Kx Ad3 Bs4
 simp only[Ad,Ae,Aa]
 rw[Abr l a zq0,Ab,Wk l zq0,Ab]
 cases e1:Ch l with
 |false=>rfl
 |true=>
  simp only[Bool.not_true,Aj]
  by_cases hneg:C0 l a<0
  .rw[Ai hneg,if_pos hneg];rfl
  .obtain⟨x,hx,hi⟩:=Ah2 (l:=l) (a:=a) zq0
   obtain⟨_,q2,_⟩:=Dq.1 e1
   obtain⟨_,g2,g3⟩:=q2 x (List.mem_of_getElem? hx)
   rw[Bk hneg,Aj,hi,if_neg hneg,hx]
   simp only[Ab]
   rw[w64 (n:=3*x.2.2.1) zq0,w64 zq0]
   rfl
theorem B0e (l:List Ak) (a:A6) (n:YI) (h:l.length<=1000):A7s (l,()) a n=some (Aem l a n.1,()):=by
 unfold A7s A63 Aem
 simp only[Ad,Ae,Aa,Ag]
 rw[Agp l zq0,Ab,Wk l zq0,Ab,Ic,Ab,Cf,Ab,Abr l a zq0,Ab]
 by_cases hc:Ch l=true/\Ck a=true/\inR n.1 0 1000000=true
 .obtain⟨c1,c2,c3⟩:=hc
  have c4:=Bt.1 c3
  rw[if_pos ⟨c1,c2,c3⟩,c1,c2,c3]
  simp only[Bool.not_true,Aj]
  by_cases hneg:C0 l a<0
  .rw[if_pos hneg,Bk zq0,Aj]
   have h8':=(Dq.1 c1).1
   by_cases h8:l.length=8
   .rw[if_pos h8,Bk zq0];rfl
   .rw[if_neg h8,Ai zq0,Ay,Ai zq1,Ar]
  .obtain⟨x,hx,hi⟩:=Ah2 (l:=l) (a:=a) zq0
   obtain⟨_,q2,_⟩:=Dq.1 c1
   obtain⟨_,g2,_⟩:=q2 x (List.mem_of_getElem? hx)
   rw[if_neg hneg,Ai zq0,Ay,hi,hx]
   simp only[Ab]
   rw[w64 zq0]
 .rw[if_neg hc]
  cases e1:Ch l with
  |false=>rfl
  |true=>
   cases e2:Ck a with
   |false=>rfl
   |true=>
    cases e3:inR n.1 0 1000000 with
    |false=>rfl
    |true=>exact(hc ⟨e1,e2,e3⟩).elim
theorem Bx7 (l:List Ak) (a:A6) (n:YI) (h:l.length<=1000):A1z (l,()) a n=some (match Wn l a n.1 with|some r=>((r,()),(true,()))|none=>((l,()),(false,()))):=by
 unfold A1z A02
 simp only[Ad,Ae,Aa,Ag]
 rw[Agp l zq0,Ab,Abr l a zq0,Ab,Wk l zq0,Ab,B0d l a h,Ab,Cf,Ab]
 unfold Wn Bs4
 cases e1:Ch l with
 |false=>rw[if_neg zq3];rfl
 |true=>
  simp only[Bool.not_true,Aj]
  by_cases hneg:C0 l a<0
  .rw[Ai hneg,Ay,if_neg zq0]
  .obtain⟨x,hx,hi⟩:=Ah2 (l:=l) (a:=a) zq0
   obtain⟨_,q2,_⟩:=Dq.1 e1
   obtain⟨_,g2,g3⟩:=q2 x (List.mem_of_getElem? hx)
   simp only[true_and,if_true]
   rw[Bk hneg,Aj,if_neg hneg,if_pos (show 0<=C0 l a by omega),hx,hi]
   simp only[Ab]
   cases hn:inR n.1 0 (3*x.2.2.1-x.2.2.2.1)with
   |false=>rfl
   |true=>
    have:=Bt.1 hn
    rw[w64 zq0]
    rfl
theorem Bx8 (f:As) (h:A5 f<=536870912):Ahf f=some (((D8 f).length:Int),()):=by
 unfold Ahf Auw
 simp only[Ae,Aa]
 rw[Awm f h];rfl
theorem Bx9 (f:As) (h:A5 f<=536870912):Ag8 f=some (((D8 f).length:Int),()):=by
 unfold Ag8 Ato
 simp only[Ae,Aa]
 rw[Bbi f h];rfl
def Aby (a:A6) (id:Int) (cn sn:List YB) (t:Int):List YB:=cat [(([((99:Int),())]++Fj a.1 4 4)++Fj a.2.1 2 2,()),([(IntKind.u8.wrap id,())],()),(cn,()),(sn,()),(([]:List YB)++Fj t 4 4,())]
theorem Np {a:A6} {id:Int} {cn sn:List YB} {t:Int} (h1:cn.length=12) (h2:sn.length=12):(Aby a id cn sn t).length=36:=by
 unfold Aby
 simp[cat,Fe,h1,h2]
theorem Ada (a:A6) (id:Int) (cn sn:List YB) (t:Int) (ha:Ck a=true) (hi:inR id 1 9=true) (h1:cn.length=12) (h2:sn.length=12) (ht:inR t 0 1000000=true):Tn a (id,()) (cn,()) (sn,()) (t,())=some (Aby a id cn sn t,()):=by
 unfold Tn Ajc A5q An4
 simp only[Ad,Ae,Aa,Ag,Ic,Cf,Hp,Ab,ha,h1,h2,hi,ht,Bool.not_true,Aj]
 rw[show((((12:Nat):Int))==(12:Int))=true by decide]
 simp only[Bool.not_true,Aj]
 rw[Pm _ _ zq3]
 simp only[Ab]
 rw[Bz9 _ _ (by simp[Fe])]
 simp only[Ab]
 rw[Pm _ _ zq3]
 simp only[Ab]
 rw[Hj _ (by have:=Np (a:=a) (id:=id) (t:=t) h1 h2;unfold Aby at this;omega) zq3]
 rfl
theorem A8b (a:A6) (id:Int) (cn sn:List YB) (t:Int) (ha:Ck a=true) (hi:inR id 1 9=true) (h1:cn.length=12) (h2:sn.length=12) (ht:inR t 0 1000000=true):Tj a (id,()) (cn,()) (sn,()) (t,())=some (Aby a id cn sn t,()):=by
 unfold Tj Aim A5n Anj
 simp only[Ad,Ae,Aa,Ag,Lz,C4,Ab,ha,h1,h2,hi,ht,Bool.not_true,Aj]
 rw[show((((12:Nat):Int)) != (12:Int))=false by decide]
 simp only[Bool.not_true,Aj]
 rw[Lh _ _ zq3]
 simp only[Ab]
 rw[B0a _ _ (by simp[Fe])]
 simp only[Ab]
 rw[Ai (by simp[Fe]),Ar,Ai (by simp[Fe,h1]),Ar,Ai (by simp[Fe,h1,h2]),Ar,Lh _ _ (by simp[Fe,h1,h2])]
 simp only[Ab]
 unfold Aby
 simp[cat]
def Ary (j:List YB) (a:A6) (id:Int) (cn sn:List YB) (t:Int):List YB:=Abs j (Aby a id cn sn t)
theorem Bs5 {j:List YB} {a:A6} {id:Int} {cn sn:List YB} {t:Int} (hj:j.length=32) (h1:cn.length=12) (h2:sn.length=12):(Ary j a id cn sn t).length=16:=by
 have hb:=Np (a:=a) (id:=id) (t:=t) h1 h2
 have h:=Sd j (Aby a id cn sn t) zq0 zq0
 unfold Ary Abs
 rw[List.length_take];omega
theorem Akw (j:List YB) (a:A6) (id:Int) (cn sn:List YB) (t:Int) (hj:j.length=32) (ha:Ck a=true) (hi:inR id 1 9=true) (h1:cn.length=12) (h2:sn.length=12) (ht:inR t 0 1000000=true):Avy (j,()) a (id,()) (cn,()) (sn,()) (t,())=some (Ary j a id cn sn t,()):=by
 have hb:=Np (a:=a) (id:=id) (t:=t) h1 h2
 unfold Avy A7d
 simp only[Ad,Ae,Aa,Ag]
 rw[Ada a id cn sn t ha hi h1 h2 ht,Ab,A3q,Ab]
 simp only[hj,hb]
 rw[show((((32:Nat):Int))==(32:Int))=true by decide,show((((36:Nat):Int))==(0:Int))=false by decide]
 simp only[Bool.not_true,Aj]
 rw[Bi9,Ab];rfl
theorem Bmb (j:List YB) (a:A6) (id:Int) (cn sn:List YB) (t:Int) (hj:j.length=32) (ha:Ck a=true) (hi:inR id 1 9=true) (h1:cn.length=12) (h2:sn.length=12) (ht:inR t 0 1000000=true):Avl (j,()) a (id,()) (cn,()) (sn,()) (t,())=some (Ary j a id cn sn t,()):=by
 have hb:=Np (a:=a) (id:=id) (t:=t) h1 h2
 unfold Avl A6s
 simp only[Ad,Ae,Aa,Ag]
 rw[A8b a id cn sn t ha hi h1 h2 ht,Ab,Beb,Ab]
 simp only[hj,hb]
 rw[show((((32:Nat):Int))==(32:Int))=true by decide,show((((36:Nat):Int))==(0:Int))=false by decide]
 simp only[Bool.not_true,Aj]
 rw[Bja,Ab];rfl
def Arz (n t:Int):Bool:=inR n 0 1000000 && (inR t 0 1000000 && inR (IntKind.i64.wrap (n-t)) 0 10)
theorem Bqb (n t:YI):A1v n t=some (Arz n.1 t.1,()):=by
 unfold A1v A0r Arz
 simp only[Ad,Ae,Aa,Cf,Ab]
 cases inR n.1 0 1000000<;>cases inR t.1 0 1000000<;>rfl
theorem B0f (n t:YI):A1p n t=some (Arz n.1 t.1,()):=by
 unfold A1p Azu Arz
 simp only[Ad,Ae,Aa,C4,Ab]
 cases inR n.1 0 1000000<;>cases inR t.1 0 1000000<;>rfl
theorem Qc {f:As} (h:Bm f=true) (hk:f.1=3):inR f.2.1 1 9=true/\f.2.2.1.length=12/\f.2.2.2.1.length=12/\inR f.2.2.2.2.1 0 1000000=true/\f.2.2.2.2.2.1.length=16/\f.2.2.2.2.2.2.1.length=16:=by
 unfold Bm at h
 simp only[hk,show inR (3:Int) 4 8=false by decide,show((3:Int)==1)=false by decide,show((3:Int)==2)=false by decide,cond_false,Bool.and_eq_true,beq_iff_eq]at h
 obtain⟨h1,h2,h3,h4,h5,h6,h7,h8,h9,h10,h11⟩:=h
 exact⟨h7,by omega,by omega,h9,by omega,by omega⟩
theorem Awz {f:As} (h:Bm f=true) (hk:f.1=1):inR f.2.1 1 9=true/\f.2.2.1.length=12:=by
 unfold Bm at h
 simp only[hk,show inR (1:Int) 4 8=false by decide,show((1:Int)==1)=true by decide,cond_false,cond_true,Bool.and_eq_true,beq_iff_eq]at h
 obtain⟨h1,h2,h3,h4,h5,h6,h7⟩:=h
 exact⟨h6,by omega⟩
theorem Bya (j:List YB) (n:YI) (a:A6) (f:As): ∃k,Ae3 (j,()) n a f=some (k,())/\A1q (j,()) n a f=some (k,())/\(k=0->j.length=32/\inR n.1 0 1000000=true/\Ck a=true/\f.1=3/\Bm f=true):=by
 unfold Ae3 Als A1q Azv
 simp only[Ad,Ae,Aa,Ag,A3q,Beb,Cf,C4,Ic,Lz,Jj,P0,Bqb,B0f,Ab]
 cases e1:((j.length:Int)==32)with
 |false=>exact⟨1,rfl,rfl,fun h=>by cases h⟩
 |true=>
 cases e2:inR n.1 0 1000000 with
 |false=>exact⟨1,rfl,rfl,fun h=>by cases h⟩
 |true=>
 cases e3:Ck a with
 |false=>exact⟨1,rfl,rfl,fun h=>by cases h⟩
 |true=>
 simp only[Bool.not_true,Aj]
 cases e4:(f.1 != (3:Int))with
 |true=>
  cases Bm f with
  |false=>exact⟨1,rfl,rfl,fun h=>by cases h⟩
  |true=>exact⟨1,rfl,rfl,fun h=>by cases h⟩
 |false=>
 cases e5:Bm f with
 |false=>exact⟨1,rfl,rfl,fun h=>by cases h⟩
 |true=>
 simp only[Bool.not_true,Aj]
 cases e6:Arz n.1 f.2.2.2.2.1 with
 |false=>exact⟨9,rfl,rfl,fun h=>by cases h⟩
 |true=>
 have hj:j.length=32:=by simp only[beq_iff_eq]at e1;omega
 have hk:f.1=3:=by simpa using e4
 obtain⟨c1,c2,c3,c4,c5,c6⟩:=Qc e5 hk
 rw[Akw j a f.2.1 f.2.2.1 f.2.2.2.1 f.2.2.2.2.1 hj e3 c1 c2 c3 c4,Bmb j a f.2.1 f.2.2.1 f.2.2.2.1 f.2.2.2.2.1 hj e3 c1 c2 c3 c4]
 simp only[Bool.not_true,Aj,Ab]
 obtain⟨r,r1,r2⟩:=Ahk f.2.2.2.2.2.1 (Ary j a f.2.1 f.2.2.1 f.2.2.2.1 f.2.2.2.2.1) zq0
 rw[r1,r2]
 simp only[Ab]
 cases r with
 |false=>exact⟨2,rfl,rfl,fun h=>by cases h⟩
 |true=>exact⟨0,rfl,rfl,fun _=>⟨hj,trivial,trivial,hk,trivial⟩⟩
theorem Bs6 (p:List YB) (f:As): ∃k,Wb (p,()) f=some (k,())/\Aox (p,()) f=some (k,()):=by
 unfold Wb Ad7 Aox Anm
 simp only[Ad,Ae,Aa,Ag,Jj,P0,Bp9,Bz7,Ab]
 cases e1:(f.1==(3:Int))with
 |false=>
  have:(f.1 != (3:Int))=true:=by simp only[bne,e1];rfl
  first|exact⟨false,rfl,rfl⟩|(cases Bm f<;>exact⟨false,rfl,rfl⟩)|(rw[this];cases Bm f<;>exact⟨false,rfl,rfl⟩)
 |true=>
 have hne:(f.1 != (3:Int))=false:=by simp only[bne,e1];rfl
 cases e5:Bm f with
 |false=>first|exact⟨false,rfl,rfl⟩|(rw[hne];exact⟨false,rfl,rfl⟩)
 |true=>
 obtain⟨c1,c2,c3,c4,c5,c6⟩:=Qc e5 (by simpa using e1)
 obtain⟨r,r1,r2⟩:=Ahk f.2.2.2.2.2.2.1 (Art p f.2.1 f.2.2.1 f.2.2.2.1 f.2.2.2.2.1 f.2.2.2.2.2.1) zq0
 rw[r1,r2]
 first|exact⟨r,rfl,rfl⟩|(rw[hne];exact⟨r,rfl,rfl⟩)
theorem B1w (a b:List YB) (h:a.length<=4294967296): ∃r,Sa (a,()) (b,())=some (r,()):=by
 obtain⟨r,r1,_⟩:=Ahk a b h
 exact⟨r,r1⟩
theorem Byb (j:List YB) (n:YI) (a:A6) (f:As): ∃k,Ae3 (j,()) n a f=some (k,())/\(k=0->j.length=32/\inR n.1 0 1000000=true/\Ck a=true/\f.1=3/\Bm f=true):=by
 unfold Ae3 Als
 simp only[Ad,Ae,Aa,Ag,A3q,Cf,Ic,Jj,Bqb,Ab]
 cases e1:((j.length:Int)==32)with
 |false=>exact⟨1,rfl,fun h=>by cases h⟩
 |true=>
 cases e2:inR n.1 0 1000000 with
 |false=>exact⟨1,rfl,fun h=>by cases h⟩
 |true=>
 cases e3:Ck a with
 |false=>exact⟨1,rfl,fun h=>by cases h⟩
 |true=>
 cases e4:(f.1 != (3:Int))with
 |true=>exact⟨1,rfl,fun h=>by cases h⟩
 |false=>
 cases e5:Bm f with
 |false=>exact⟨1,rfl,fun h=>by cases h⟩
 |true=>
 cases e6:Arz n.1 f.2.2.2.2.1 with
 |false=>exact⟨9,rfl,fun h=>by cases h⟩
 |true=>
 have hj:j.length=32:=by simp only[beq_iff_eq]at e1;omega
 have hk:f.1=3:=by simpa using e4
 obtain⟨c1,c2,c3,c4,c5,c6⟩:=Qc e5 hk
 rw[Akw j a f.2.1 f.2.2.1 f.2.2.2.1 f.2.2.2.2.1 hj e3 c1 c2 c3 c4]
 simp only[Bool.not_true,Aj,Ab]
 obtain⟨r,r1⟩:=B1w f.2.2.2.2.2.1 (Ary j a f.2.1 f.2.2.1 f.2.2.2.1 f.2.2.2.2.1) zq0
 rw[r1]
 simp only[Ab]
 cases r with
 |false=>exact⟨2,rfl,fun h=>by cases h⟩
 |true=>exact⟨0,rfl,fun _=>⟨hj,trivial,trivial,hk,trivial⟩⟩
theorem Bs7 (p:List YB) (f:As): ∃k,Wb (p,()) f=some (k,()):=by
 unfold Wb Ad7
 simp only[Ad,Ae,Aa,Ag,Jj,Bp9,Ab]
 cases e1:(f.1==(3:Int))with
 |false=>exact⟨false,rfl⟩
 |true=>
 cases e5:Bm f with
 |false=>exact⟨false,rfl⟩
 |true=>
 obtain⟨c1,c2,c3,c4,c5,c6⟩:=Qc e5 (by simpa using e1)
 obtain⟨r,r1⟩:=B1w f.2.2.2.2.2.2.1 (Art p f.2.1 f.2.2.1 f.2.2.2.1 f.2.2.2.2.1 f.2.2.2.2.2.1) zq0
 rw[r1]
 exact⟨r,rfl⟩
theorem Akx: ∀ {l:List Al} {i:Nat} {x y:Al},l[i]? =some x->Cw y=Cw x->Fh (l.set i y)=Fh l
 |[],i,x,y,h,_=>by simp at h
 |a::r,0,x,y,h,e=>by
  simp at h;subst h
  simp only[List.set_cons_zero,Fh,List.countP_cons,e]
 |a::r,i+1,x,y,h,e=>by
  have:=Akx (l:=r) (i:=i) (x:=x) (y:=y) (by simpa using h) e
  simp only[List.set_cons_succ,Fh,List.countP_cons]at this ⊢
  omega
theorem A5z {E:Type} {f:E->Nat} {K:Nat}: ∀ {l:List E} {i:Nat} {x y:E},l[i]? =some x->f y<=f x+K->Af f (l.set i y)<=Af f l+K
 |[],i,x,y,h,_=>by simp at h
 |a::r,0,x,y,h,e=>by
  simp at h;subst h
  simp only[List.set_cons_zero,Af];omega
 |a::r,i+1,x,y,h,e=>by
  have:=A5z (l:=r) (i:=i) (x:=x) (y:=y) (by simpa using h) e
  simp only[List.set_cons_succ,Af];omega
theorem Bjb {t:B8} {n:Int} {x y:Al} (hn:Bj t+Ap y<=1073741824) (ht:I8 t=true) (h0:0<=n) (hx:t.2.1[n.toNat]? =some x) (ho:C8 y=true) (hs:y.2.2.1=x.2.2.1) (hd:Cw y=Cw x):
  G5 t (n,()) y=some ((t.1,t.2.1.set n.toNat y,()),(true,()))/\I8 (t.1,t.2.1.set n.toNat y,())=true/\Eh (t.1,t.2.1.set n.toNat y,())=Eh t:=by
 have hl:t.2.1.length<=Bj t:=by simp only[Bj];omega
 have h1:=Bg0 zq0 ht hx ho hs (.inr hd)
 refine⟨Bst t (n,()) y x hn ht h0 hx h1,h1,?_⟩
 rw[Ko _ zq1,Ko t zq0]
 rw[show Fh (t.1,t.2.1.set n.toNat y,()).2.1=Fh t.2.1 from Akx hx hd]
def Ah3 (b:List YB):Am:=((14:Int),(0:Int),(0:Int),([]:List YB),([]:List YB),(0:Int),(0:Int),b,([]:List YB),(0:Int),(0:Int),(0:Int),())
theorem Abz (b:List YB) (h:b.length<=4294967296):Lw (b,())=some (Ah3 b):=by
 unfold Lw Aje
 simp only[Ae,Aa]
 rw[B0 _ h];rfl
theorem Bbz {b:List YB} (h:b.length<=100):Kf (Ah3 b)=true:=by
 rw[Kp]
 simp only[Ah3,List.length_nil]
 exact⟨by omega,by omega,by omega,by omega,by omega,by omega,.inl trivial,.inl trivial,h,.inl trivial,Bbv⟩
def J7 (s:A0):List Ak:=s.2.2.2.2.2.2.1
def Br (s:A0):List Al:=s.2.2.2.2.2.1
def Mid (S X:A0) (os:List Au) (ns:List Am) (fin init:Bool):Prop:=
 (Em X=true/\It os/\Ht ns)/\(os.length<=20000000/\ns.length<=20000000)/\J7 X=J7 S/\((Br S).length<=(Br X).length/\(Br X).length<=(Br S).length+1/\Eh (Qv S)<=Eh (Qv X))/\
 ((fin=false\/Eh (Qv S)=S.2.2.2.2.1)->(Br X).length=(Br S).length/\Eh (Qv X)=Eh (Qv S))/\(init=true->Qv X=Qv S/\os.length<=1)/\A7 X<=A7 S+100000
theorem Mid.none {S:A0} {fin init:Bool} (hs:Em S=true):Mid S S [] [] fin init:=
 ⟨⟨hs,fun _ h=>(by cases h),fun _ h=>(by cases h)⟩,⟨by simp,by simp⟩,rfl,⟨Nat.le_refl _,by omega,Int.le_refl _⟩,fun _=>⟨rfl,rfl⟩,fun _=>⟨rfl,by simp⟩,by omega⟩
theorem Byc (S:A0) (n:YI) (a:A6) (f:As) (hs:Em S=true) (hn:A7 S<=1200000) (ha:Ck a=true) (ht:inR n.1 0 1000000=true) (hf:Bm f=true) (hk:f.1=1):Tot (fun r=>Mid S r.1 r.2.1.1 r.2.2.1 false true) (To S n a f):=by
 obtain⟨a1,a2,a3,a4,a5,a6,a7⟩:=Eb.1 hs
 obtain⟨i1,i2⟩:=Awz hf hk
 have hcr:=(Dq.1 a5).1
 have base:Tot (fun r:A0×((List Au)×Unit)×((List Am)×Unit)=>Mid S r.1 r.2.1.1 r.2.2.1 false true) (some (S,(([]:List Au),()),(([]:List Am),()))):=Gc (Mid.none hs)
 have hj:S.2.1.length=32:=by simp only[beq_iff_eq]at a2;omega
 have hsd:S.2.2.1.length<=32:=by
  unfold Ga at a3
  simp only[Bool.and_eq_true,Bt]at a3
  omega
 have hdN:0<=S.2.2.2.1/\S.2.2.2.1<=10000:=by
  unfold Ga at a3
  simp only[Bool.and_eq_true,Bt]at a3
  omega
 unfold To Aat
 simp only[Ad,Ae,Aa,Ag]
 refine Ff (fun _=>base) (fun _=>?_)
 rw[Akq S a _ zq0,Ab]
 refine Ff (fun _=>base) (fun _=>Ff (fun _=>base) (fun hN=>?_))
 have hN:=of_decide_eq_false hN
 have hroll:Gb (S.2.2.1,S.2.2.2.1,())=((S.2.2.1,S.2.2.2.1+1,()),T4 S.2.2.1 S.2.2.2.1):=by
  unfold Gb;rw[if_pos ⟨a3,by dsimp only;omega⟩]
 have h12:=Bg6 a3
 rw[A2g _ zq2,hroll,Ab]
 obtain⟨n,⟨⟩⟩:=n
 dsimp only at ht ⊢
 rw[Akw S.2.1 a f.2.1 f.2.2.1 _ n hj ha i1 i2 h12 ht,Ab,B0 _ zq2,Ab,B0 _ zq2,Ab,Ada a f.2.1 f.2.2.1 _ n ha i1 i2 h12 ht,Ab]
 have hb:=Np (a:=a) (id:=f.2.1) (t:=n) i2 h12
 have hm:=Bs5 (a:=a) (id:=f.2.1) (t:=n) hj i2 h12
 rw[Bbs _ _ zq0 zq0,Ab,Abz _ zq0,Ab]
 refine Gc ⟨⟨Eb.2 ⟨a1,a2,?_,a4,a5,a6,a7⟩,fun o ho=>?_,fun m hmm=>?_⟩,⟨by simp,by simp⟩,rfl,⟨Nat.le_refl _,by show S.2.2.2.2.2.1.length<=S.2.2.2.2.2.1.length+1;omega,Int.le_refl _⟩,fun _=>⟨rfl,rfl⟩,fun _=>⟨rfl,by simp⟩,?_⟩
 .unfold Ga at a3 ⊢
  simp only[Bool.and_eq_true,Bt]at a3 ⊢
  exact⟨a3.1,by omega⟩
 .rw[List.mem_singleton.1 ho]
  refine⟨?_,ha⟩
  unfold Bm
  simp[i2,h12,hm,ht,show inR 2 4 8=false by decide]
 .simp only[List.mem_cons,List.not_mem_nil,or_false]at hmm
  rcases hmm with rfl|rfl
  .exact Bbz zq0
  .exact Bl6 (.inr hj) zq0
 .simp only[A7];omega
theorem Aw0 {S X:A0} {i:Int} {x y:Al} {fin:Bool} {os:List Au} {ns:List Am} (hX:Mid S X [] ns fin false) (h0:0<=i) (hx:(Br X)[i.toNat]? =some x) (hn:Ap y<=Ap x+900) (ho:C8 y=true) (hs:y.2.2.1=x.2.2.1) (hi:y.1=x.1) (hd:Cw y=Cw x) (hos:It os) (hol:os.length<=20000000) {ms:List Am} (hms:Ht ms) (hml:ms.length<=20000000) (hnd:A7 X<=A7 S+90000) {sd:List YB} {N:Int} (hdd:Ga (sd,N,())=true) (hsd:sd.length<=X.2.2.1.length):
  Mid S (X.1,X.2.1,sd,N,X.2.2.2.2.1,(Br X).set i.toNat y,J7 X,()) os ms fin false:=by
 obtain⟨⟨m1,_,_⟩,_,m3,⟨m4,m5,m6⟩,m7,m8,_⟩:=hX
 obtain⟨a1,a2,a3,a4,a5,a6,a7⟩:=Eb.1 m1
 have hl12:=(Br X).length
 have hlt:(Br X).length<=4294967296:=by
  unfold I8 at a4
  simp only[Bool.and_eq_true,Bool.not_eq_true',decide_eq_false_iff_not]at a4
  have:=a4.2.1
  show X.2.2.2.2.2.1.length<=_
  omega
 have ht:=Bg0 (t:=(X.2.2.2.2.1,X.2.2.2.2.2.1,())) hlt a4 hx ho hs (.inr hd)
 have hlv:Eh (X.2.2.2.2.1,(Br X).set i.toNat y,())=Eh (Qv X):=by
  rw[Ko _ zq1,Ko (Qv X) hlt]
  rw[show Fh (X.2.2.2.2.1,(Br X).set i.toNat y,()).2.1=Fh (Qv X).2.1 from Akx hx hd]
 have hsum:Af Ap ((Br X).set i.toNat y)<=Af Ap (Br X)+900:=A5z hx hn
 have hxm:x∈Br X:=List.mem_of_getElem? hx
 refine⟨⟨Eb.2 ⟨a1,a2,hdd,ht,a5,a6,fun z hz=>?_⟩,hos,hms⟩,⟨hol,hml⟩,m3,⟨?_,?_,?_⟩,fun h=>?_,fun h=>(by cases h),?_⟩
 .rcases List.mem_or_eq_of_mem_set hz with hz|hz
  .exact a7 z hz
  .rw[hz,hi];exact a7 x hxm
 .show(Br S).length<=((Br X).set i.toNat y).length;simpa using m4
 .show((Br X).set i.toNat y).length<=_;simpa using m5
 .show Eh (Qv S)<=Eh (X.2.2.2.2.1,(Br X).set i.toNat y,());rw[hlv];exact m6
 .obtain⟨k1,k2⟩:=m7 h
  exact⟨by show((Br X).set i.toNat y).length=_;simpa using k1,by show Eh (X.2.2.2.2.1,(Br X).set i.toNat y,())=_;rw[hlv];exact k2⟩
 .have e1:A7 (X.1,X.2.1,sd,N,X.2.2.2.2.1,(Br X).set i.toNat y,J7 X,())=X.1.length+Af Cy X.1+X.2.1.length+sd.length+(Br X).length+Af Ap ((Br X).set i.toNat y)+(J7 X).length:=by simp only[A7,List.length_set]
  have e2:A7 X=X.1.length+Af Cy X.1+X.2.1.length+X.2.2.1.length+(Br X).length+Af Ap (Br X)+(J7 X).length:=rfl
  omega
theorem A2t (p:List YB) (n:YI) (a:A6) (f:As) (hp:L6 (p,())=true) (hn:inR n.1 0 1000000=true) (ha:Ck a=true) (hf:Bm f=true) (hk:f.1=3):Tot (fun s=>C8 s=true/\Cw s=false/\s.1=f.2.1/\s.2.1=f.2.2.1/\s.2.2.1=f.2.2.2.1/\s.2.2.2.2.2.2.1.length=32/\Ap s<=300) (Aeh (p,()) n a f):=by
 obtain⟨c1,c2,c3,c4,c5,c6⟩:=Qc hf hk
 have hnf:=Kq hf
 obtain⟨r,r1,r2,r3⟩:=Bbp (p,()) n a f zq0
 have hek:=Bl7 (p:=p) hp c2 c3
 refine⟨r,r1,?_⟩
 unfold Aee Adw at r2
 simp only[Ad,Ae,Aa,Ag,List.length_nil,List.nil_append,Nat.zero_add]at r2
 rw[Arn,Ab,hp,C4,Lz,P0]at r2
 simp only[Ab,Bool.not_true,Aj]at r2
 rw[hn,ha,hf,show(f.1 != (3:Int))=false by simp[hk]]at r2
 simp only[Bool.not_true,Aj]at r2
 rw[Ai zq0,Ai zq0,Ar,Ar,Bbn,Ab,show R8 ((1:Int),()) (f.2.2.2.1,()) (N6 p f.2.2.1 f.2.2.2.1 0,())=_ from(Bo9 1 f.2.2.2.1 _ (.inr rfl) c3 hek).2,Ab,show Aj6 a=some (a.1,a.2.1,[],())from rfl,Ab]at r2
 simp only[Option.some.injEq]at r2
 subst r2
 exact⟨A2q (Bt.1 c1) c2 c3 (Bpa (.inr rfl) c3 hek) rfl (Qs _) (K0.2 ⟨ha,by simp,(fun x hx=>by cases hx),List.Pairwise.nil⟩) (Bt.1 c4) (Bt.1 hn),rfl,rfl,rfl,rfl,hek,by omega⟩
theorem Byd {id:Int} {cn sn k:List YB} {a:A6} {n:Int} (h1:inR id 1 9=true) (h2:cn.length=12) (h3:sn.length=12) (h4:k.length=32) (ha:Ck a=true) (hn:inR n 0 1000000=true):Kf ((4:Int),id,(0:Int),cn,sn,(0:Int),(0:Int),([]:List YB),k,a.1,a.2.1,n,())=true:=by
 have h1:=Bt.1 h1
 have hn:=Bt.1 hn
 rw[Kp]
 simp only[List.length_nil]
 exact⟨by omega,by omega,by omega,by omega,by omega,hn,.inr h2,.inr h3,by omega,.inr h4,ha⟩
theorem Bwe {S:A0} (hs:Em S=true) {id:Int} (h1:inR id 1 9=true) (h2:id<=(S.1.length:Int)): ∃e,idx S.1 (IntKind.i64.wrap (id-1))=some e/\L6 e=true:=by
 obtain⟨a1,a2,a3,a4,a5,a6,a7⟩:=Eb.1 hs
 have h1:=Bt.1 h1
 rw[w64 zq0]
 have hlt:(id-1).toNat<S.1.length:=by omega
 have hx:=List.getElem?_eq_getElem hlt
 refine⟨S.1[(id-1).toNat],by unfold idx;rw[if_pos zq0];exact hx,?_⟩
 have:=Hq.1 a6 _ _ hx
 simpa using this
theorem Ahl {l:List Al} {s:List YB} (h:0<=Ed l s): ∃x,l[(Ed l s).toNat]? =some x/\idx l (Ed l s)=some x:=by
 cases hf:Id (fun _ (x:Al)=>Cm x.2.2.1 s) l 0 with
 |none=>unfold Ed L9 at h;rw[hf]at h;simp at h
 |some k=>
  have e:Ed l s=(k:Int):=by unfold Ed L9;rw[hf];rfl
  obtain⟨j,y,hk,h2,h3,_⟩:=Tx hf
  have hk:k=j:=by omega
  subst hk
  refine⟨y,by rw[e];simpa using h2,?_⟩
  unfold idx
  rw[if_pos h,e]
  simpa using h2
theorem Bqc {S X:A0} {i:Int} {x:Al} {ns0:List Am} {fin:Bool} (hX:Mid S X [] ns0 fin false) (hn:A7 X<=1400000) (h0:0<=i) (hx:(Br X)[i.toNat]? =some x) (hd:Cw x=false) (hnd:A7 X<=A7 S+90000) (hnl:ns0.length<=100):
  Tot (fun r=>Mid S r.1 r.2.1.1 r.2.2.1 fin false) (ob (Ky x) fun r19=>ob (G5 (X.2.2.2.2.1,Br X,()) (i,()) r19.1) fun r20=>chk (decide (ns0.length+r19.2.2.1.length<=4294967296)) (some ((X.1,X.2.1,X.2.2.1,X.2.2.2.1,r20.1.1,r20.1.2.1,J7 X,()),r19.2.1,((ns0++r19.2.2.1),())))):=by
 obtain⟨⟨m1,_,m2⟩,_⟩:=id hX
 obtain⟨a1,a2,a3,a4,a5,a6,a7⟩:=Eb.1 m1
 have hxm:x∈Br X:=List.mem_of_getElem? hx
 have hsm:Ap x<=Af Ap (Br X):=Adb (f:=Ap) hxm
 have e2:A7 X=X.1.length+Af Cy X.1+X.2.1.length+X.2.2.1.length+(Br X).length+Af Ap (Br X)+(J7 X).length:=rfl
 have ho:C8 x=true:=((Zq (by show(Br X).length<=_;omega)).1 a4).2.2.2.1 x hxm
 obtain⟨r,os,ns,r1,_,r3,r4,r5,r6⟩:=Bbt x zq0
 obtain⟨r7,r8,r9⟩:=r6 ho hd
 rw[r1,Ab]
 have hnt:Bj (X.2.2.2.2.1,Br X,())<=1400000:=by simp only[Bj];omega
 obtain⟨p1,p2,p3⟩:=Bjb (t:=(X.2.2.2.2.1,Br X,())) (y:=r) zq0 a4 h0 hx r7 r8 (by rw[r9,hd])
 rw[p1,Ab]
 refine Arw (Ai zq2) (Gc ?_)
 rcases B2r x zq0 ho hd r1 with⟨rfl,rfl,rfl⟩|⟨w1,w2,w3,w4,w5,w6,w7⟩
 .dsimp only
  rw[List.append_nil]
  exact Aw0 hX h0 hx zq0 ho rfl rfl rfl (fun _ h=>by cases h) zq3 m2 zq0 hnd a3 (Nat.le_refl _)
 .exact Aw0 hX h0 hx zq0 w1 w5 w4 (by rw[w6,hd]) w2 zq0 (K4 m2 w3) (by rw[List.length_append];omega) hnd a3 (Nat.le_refl _)
theorem B0g (S:A0) (n:YI) (a:A6) (f:As) (hs:Em S=true) (hn:A7 S<=1200000):Tot (fun r=>Mid S r.1 r.2.1.1 r.2.2.1 true false) (Pf S n a f):=by
 obtain⟨a1,a2,a3,a4,a5,a6,a7⟩:=Eb.1 hs
 have e2:A7 S=S.1.length+Af Cy S.1+S.2.1.length+S.2.2.1.length+(Br S).length+Af Ap (Br S)+(J7 S).length:=rfl
 have base:Tot (fun r:A0×((List Au)×Unit)×((List Am)×Unit)=>Mid S r.1 r.2.1.1 r.2.2.1 true false) (some (S,(([]:List Au),()),(([]:List Am),()))):=Gc (Mid.none hs)
 have hj:S.2.1.length=32:=by simp only[beq_iff_eq]at a2;omega
 have hnt:Bj (S.2.2.2.2.1,S.2.2.2.2.2.1,())<=1200000:=by
  show(Br S).length+Af Ap (Br S)<=_
  omega
 unfold Pf Us
 simp only[Ad,Ae,Aa,Ag]
 obtain⟨k,k1,k3⟩:=Byb S.2.1 n a f
 rw[k1,Ab]
 refine Ff (fun _=>base) (fun hk0=>Ff (fun _=>base) (fun hid=>?_))
 have hk0:k=0:=by simpa using hk0
 have hid:=of_decide_eq_false hid
 obtain⟨_,ht,ha,hk,hf⟩:=k3 hk0
 obtain⟨c1,c2,c3,c4,c5,c6⟩:=Qc hf hk
 obtain⟨⟨e,⟨⟩⟩,he,hpsk⟩:=Bwe hs c1 zq0
 obtain⟨pk,pk1⟩:=Bs7 e f
 rw[he,Ab,pk1,Ab]
 refine Ff (fun _=>base) (fun _=>?_)
 rw[Qr _ _ (by show(Br S).length<=_;omega),Ab]
 refine Ff (fun hneg=>?_) (fun hneg=>?_)
 .rw[Ab]
  refine Bbw (A2t e n a f hpsk ht ha hf hk) (fun r6 ⟨s1,s2,s3,s4,s5,s6,s7⟩=>?_)
  refine Bbw (Bzk (S.2.2.2.2.1,S.2.2.2.2.2.1,()) r6 zq0) (fun r7 h7=>?_)
  refine Ff (fun _=>base) (fun h0=>?_)
  have h0:r7.2.1=0:=by simpa using h0
  obtain⟨q1,q2,q3,q4⟩:=Bv8 (by show(Br S).length<=_;omega) h7 h0
  obtain⟨_,_,_,_,_,_,q5⟩:=h7.2 h0
  obtain⟨⟨rc,rl,⟨⟩⟩,rk⟩:=r7
  dsimp only at q1 q2 q3 q4 q5 ⊢
  simp only[Prod.mk.injEq,and_true]at q5
  obtain⟨rfl,rfl⟩:=q5
  have hfk:=A2n hpsk
  have hpb:(Hs f.2.1 f.2.2.1 f.2.2.2.1 f.2.2.2.2.1 f.2.2.2.2.2.1).length<=46:=by rw[Ayp];cases T6 f.2.1 f.2.2.1 f.2.2.2.1 f.2.2.2.2.1 f.2.2.2.2.2.1<;>simp
  have hmb:=Np (a:=a) (id:=f.2.1) (t:=f.2.2.2.2.1) c2 c3
  rw[Ada a f.2.1 f.2.2.1 f.2.2.2.1 f.2.2.2.2.1 ha c1 c2 c3 c4,Ab,Ars _ _ _ zq0 zq0 zq0,Ab,App,Ab,Apq,Ab,Ars _ _ _ zq0 zq0 zq0,Ab,B0 _ zq2,Ab,B0 _ zq2,Ab,B0 _ zq2,Ab]
  refine Arw (Ai zq3) ?_
  rw[Qr _ _ (by show(Br S++[r6]).length<=_;simp;omega),Ab]
  have hfs:Ed (S.2.2.2.2.2.1++[r6]) f.2.2.2.1=((Br S).length:Int):=by rw[<-s5];exact q3
  rw[hfs]
  have hgx:(S.2.2.2.2.2.1++[r6])[(((Br S).length:Nat):Int).toNat]? =some r6:=by simp[Br]
  rw[show idx (S.2.2.2.2.2.1++[r6]) (((Br S).length:Nat):Int)=some r6 by unfold idx;rw[if_pos zq0];exact hgx,Ab]
  have hmid: ∀ns,Ht ns->ns.length<=100->Mid S (S.1,S.2.1,S.2.2.1,S.2.2.2.1,S.2.2.2.2.1,S.2.2.2.2.2.1++[r6],S.2.2.2.2.2.2.1,()) [] ns true false:=fun ns hns hnl=>by
   refine⟨⟨Eb.2 ⟨a1,a2,a3,q1,a5,a6,fun z hz=>?_⟩,fun _ h=>(by cases h),hns⟩,⟨by simp,by omega⟩,rfl,⟨?_,?_,?_⟩,fun h=>?_,fun h=>(by cases h),?_⟩
   .rcases List.mem_append.1 hz with hz|hz
    .exact a7 z hz
    .rw[List.mem_singleton.1 hz,s3];show f.2.1<=(S.1.length:Int);omega
   .show(Br S).length<=(Br S++[r6]).length;simp
   .show(Br S++[r6]).length<=_;simp
   .show Eh (Qv S)<=Eh (S.2.2.2.2.1,S.2.2.2.2.2.1++[r6],());rw[q2];show Eh (Qv S)<=Eh (Qv S)+1;omega
   .rcases h with h|h
    .cases h
    .have q4:Eh (Qv S)<S.2.2.2.2.1:=q4
     omega
   .have:Af Ap (Br S++[r6])=Af Ap (Br S)+Ap r6:=by
     rw[Iz];simp[Af]
    show S.1.length+Af Cy S.1+S.2.1.length+S.2.2.1.length+(Br S++[r6]).length+Af Ap (Br S++[r6])+(J7 S).length<=A7 S+100000
    rw[List.length_append,this,List.length_singleton];omega
  have hnotes:Ht (([]:List Am)++[Hf S.2.1 f.2.2.2.1 (Aby a f.2.1 f.2.2.1 f.2.2.2.1 f.2.2.2.2.1),Hf (Jn e) f.2.2.2.1 (Hs f.2.1 f.2.2.1 f.2.2.2.1 f.2.2.2.2.1 f.2.2.2.2.2.1),((4:Int),f.2.1,(0:Int),f.2.2.1,f.2.2.2.1,(0:Int),(0:Int),([]:List YB),r6.2.2.2.2.2.2.1,a.1,a.2.1,n.1,())]):=fun m hm=>by
   simp only[List.nil_append,List.mem_cons,List.not_mem_nil,or_false]at hm
   rcases hm with rfl|rfl|rfl
   .exact A79 (.inr hj) (.inr c3) zq0
   .exact A79 (.inr hfk) (.inr c3) zq0
   .exact Byd c1 c2 c3 s6 ha ht
  have hm3:=hmid _ hnotes zq3
  refine Ff (fun _=>Gc hm3) (fun _=>Ff (fun _=>Gc hm3) (fun _=>?_))
  rw[Ge,Ab]
  refine Ff (fun _=>Gc hm3) (fun _=>?_)
  exact Bqc hm3 (by
   show S.1.length+Af Cy S.1+S.2.1.length+S.2.2.1.length+(Br S++[r6]).length+Af Ap (Br S++[r6])+(J7 S).length<=1400000
   rw[Iz,List.length_append];simp[Af];omega) zq0 hgx s2 (by
   show S.1.length+Af Cy S.1+S.2.1.length+S.2.2.1.length+(Br S++[r6]).length+Af Ap (Br S++[r6])+(J7 S).length<=A7 S+90000
   rw[Iz,List.length_append];simp[Af];omega) zq3
 .have hneg:=of_decide_eq_false hneg
  dsimp only at hneg
  rw[Ab]
  obtain⟨x,hx,hix⟩:=Ahl (l:=S.2.2.2.2.2.1) (s:=f.2.2.2.1) zq0
  rw[hix,Ab]
  refine Ff (fun _=>base) (fun hd=>Ff (fun _=>base) (fun _=>?_))
  rw[Ge,Ab]
  refine Ff (fun _=>base) (fun _=>?_)
  exact Bqc (ns0:=[]) (Mid.none hs) zq0 (Int.not_lt.1 hneg) hx hd zq0 zq3
theorem B1x {sn b:List YB} {a:A6} {n:Int} (h1:sn.length=12) (h2:b.length<=100) (ha:Ck a=true) (hn:inR n 0 1000000=true):Kf ((7:Int),(0:Int),(0:Int),([]:List YB),sn,(0:Int),(0:Int),b,([]:List YB),a.1,a.2.1,n,())=true:=by
 have hn:=Bt.1 hn
 rw[Kp]
 simp only[List.length_nil]
 exact⟨by omega,by omega,by omega,by omega,by omega,hn,.inl trivial,.inr h1,h2,.inl trivial,ha⟩
theorem Bmc (S:A0) (n:YI) (a:A6) (f:As) (d:YBs) (sd:List YB) (N:Int) {i:Int} {x:Al} (hs:Em S=true) (hn:A7 S<=1200000) (ha:Ck a=true) (ht:inR n.1 0 1000000=true) (hf:Bm f=true) (hk:inR f.1 4 8=true) (w1:wfB f.2.2.2.1) (w2:wfB (Cq x).2.1) (hdl:d.1.length<=12) (hdd:Ga (sd,N,())=true) (hsd:sd.length<=S.2.2.1.length) (h0:0<=i) (hx:(Br S)[i.toNat]? =some x) (hd:Cw x=false):
  Tot (fun r:A0×((List Au)×Unit)×((List Am)×Unit)=>Mid S r.1 r.2.1.1 r.2.2.1 false false) (ob (Jg x n a f d) fun r6=>ob (G5 (S.2.2.2.2.1,S.2.2.2.2.2.1,()) (i,()) r6.1) fun r7=>br r6.2.2.2.1 (ob (Bg (f.2.2.2.1,())) fun r8=>ob (Bg d) fun r9=>ob (Lw d) fun r10=>chk (decide ([r10].length+r6.2.2.1.1.length<=4294967296)) (chk (decide (([r10]++r6.2.2.1.1).length+[((7:Int),(0:Int),(0:Int),([]:List YB),r8.1,(0:Int),(0:Int),r9.1,([]:List YB),a.1,a.2.1,n.1,())].length<=4294967296)) (some ((S.1,S.2.1,sd,N,r7.1.1,r7.1.2.1,S.2.2.2.2.2.2.1,()),r6.2.1,((([r10]++r6.2.2.1.1)++[((7:Int),(0:Int),(0:Int),([]:List YB),r8.1,(0:Int),(0:Int),r9.1,([]:List YB),a.1,a.2.1,n.1,())]),()))))) (some ((S.1,S.2.1,S.2.2.1,S.2.2.2.1,r7.1.1,r7.1.2.1,S.2.2.2.2.2.2.1,()),r6.2.1,r6.2.2.1))):=by
 obtain⟨a1,a2,a3,a4,a5,a6,a7⟩:=Eb.1 hs
 have hfn:=Kq hf
 have hbody:=Vj hf hk
 have hxm:x∈Br S:=List.mem_of_getElem? hx
 have hsm:Ap x<=Af Ap (Br S):=Adb (f:=Ap) hxm
 have e2:A7 S=S.1.length+Af Cy S.1+S.2.1.length+S.2.2.1.length+(Br S).length+Af Ap (Br S)+(J7 S).length:=rfl
 have ho:C8 x=true:=((Zq (by show(Br S).length<=_;omega)).1 a4).2.2.2.1 x hxm
 obtain⟨r,os,ns,k,r1,_,r3,r4,r5⟩:=A5y x n a f d zq0 zq0 zq0 w1 w2
 have hnt:Bj (S.2.2.2.2.1,S.2.2.2.2.2.1,())<=1200000:=by
  show(Br S).length+Af Ap (Br S)<=_
  omega
 have hW:=Bwc x n a f d zq0 zq0 w1 w2 ho hd hdl r1
 have hr:C8 r=true/\It os/\Ht ns/\r.1=x.1/\r.2.2.1=x.2.2.1/\Cw r=false:=by
  rcases hW with⟨rfl,rfl,rfl,rfl⟩|⟨g1,g2,g3,g4,g5,g6,_⟩
  .exact⟨ho,fun _ h=>(by cases h),fun _ h=>(by cases h),rfl,rfl,hd⟩
  .exact⟨g1,g2,g3,g4,g5,g6⟩
 obtain⟨g1,g2,g3,g4,g5,g6⟩:=hr
 rw[r1,Ab]
 obtain⟨p1,p2,p3⟩:=Bjb (t:=(S.2.2.2.2.1,S.2.2.2.2.2.1,())) (y:=r) zq0 a4 h0 hx g1 g5 (by rw[g6,hd])
 rw[p1,Ab]
 have hosl:os.length<=18000000:=by omega
 have hnsl:ns.length<=18000000:=by omega
 refine Ff (fun _=>?_) (fun _=>?_)
 .obtain⟨d,⟨⟩⟩:=d
  dsimp only at hdl
  rw[B0 _ zq2,Ab,B0 _ zq2,Ab,Abz _ zq0,Ab]
  refine Arw (Ai zq1) (Arw (Ai zq1) (Gc ?_))
  have hno:Ht (([Ah3 d]++ns)++[((7:Int),(0:Int),(0:Int),([]:List YB),f.2.2.2.1,(0:Int),(0:Int),d,([]:List YB),a.1,a.2.1,n.1,())]):=K4 (K4 (Ey (Bbz zq0)) g3) (Ey (B1x hbody.1 zq0 ha ht))
  exact Aw0 (Mid.none hs) h0 hx r3 g1 g5 g4 (by rw[g6,hd]) g2 zq0 hno zq1 zq0 hdd hsd
 .exact Gc (Aw0 (Mid.none hs) h0 hx r3 g1 g5 g4 (by rw[g6,hd]) g2 zq0 g3 zq0 zq0 a3 (Nat.le_refl _))
theorem Bye (S:A0) (n:YI) (a:A6) (f:As) (hs:Em S=true) (hn:A7 S<=1200000) (ha:Ck a=true) (ht:inR n.1 0 1000000=true) (hf:Bm f=true) (hk:inR f.1 4 8=true) (w1:wfB f.2.2.2.1) (w2: ∀x∈Br S,wfB (Cq x).2.1):Tot (fun r=>Mid S r.1 r.2.1.1 r.2.2.1 false false) (Kc S n a f):=by
 obtain⟨a1,a2,a3,a4,a5,a6,a7⟩:=Eb.1 hs
 have e2:A7 S=S.1.length+Af Cy S.1+S.2.1.length+S.2.2.1.length+(Br S).length+Af Ap (Br S)+(J7 S).length:=rfl
 have base:Tot (fun r:A0×((List Au)×Unit)×((List Am)×Unit)=>Mid S r.1 r.2.1.1 r.2.2.1 false false) (some (S,(([]:List Au),()),(([]:List Am),()))):=Gc (Mid.none hs)
 have hro:Ga ((Gb (S.2.2.1,S.2.2.2.1,())).1.1,(Gb (S.2.2.1,S.2.2.2.1,())).1.2.1,())=true:=by
  have a3':=a3
  unfold Ga at a3'
  simp only[Bool.and_eq_true,Bt]at a3'
  unfold Gb
  split
  .rename_i h
   unfold Ga
   simp only[Bool.and_eq_true,Bt]
   have:=h.2
   dsimp only at this
   exact⟨a3'.1,by omega⟩
  .exact a3
 have hr1:=Bxt (S.2.2.1,S.2.2.2.1,())
 have hr2:=Blr (S.2.2.1,S.2.2.2.1,())
 unfold Kc Ob
 simp only[Ad,Ae,Aa,Ag]
 rw[Qr _ _ (by show(Br S).length<=_;omega),Ab]
 refine Ff (fun _=>base) (fun hneg=>?_)
 have hneg:=of_decide_eq_false hneg
 dsimp only at hneg
 obtain⟨x,hx,hix⟩:=Ahl (l:=S.2.2.2.2.2.1) (s:=f.2.2.2.1) (Int.not_lt.1 hneg)
 rw[hix,Ab]
 refine Ff (fun _=>base) (fun hd=>?_)
 rw[A2g _ zq2,Ab,Akq S a _ zq0,Ab]
 have hxm:x∈Br S:=List.mem_of_getElem? hx
 refine Ff (fun _=>?_) (fun _=>?_)
 .rw[Ab]
  exact Bmc S n a f (([]:List YB),()) _ _ hs hn ha ht hf hk w1 (w2 x hxm) zq3 hro (by rw[hr1];exact Nat.le_refl _) (Int.not_lt.1 hneg) hx hd
 .rw[Ab]
  exact Bmc S n a f ((Gb (S.2.2.1,S.2.2.2.1,())).2,()) _ _ hs hn ha ht hf hk w1 (w2 x hxm) hr2 hro (by rw[hr1];exact Nat.le_refl _) (Int.not_lt.1 hneg) hx hd
def frO (x:Au):As:=(x.2.2.1,x.2.2.2.1,x.2.2.2.2.1,x.2.2.2.2.2.1,x.2.2.2.2.2.2.1,x.2.2.2.2.2.2.2.1,x.2.2.2.2.2.2.2.2.1,x.2.2.2.2.2.2.2.2.2.1,x.2.2.2.2.2.2.2.2.2.2.1,x.2.2.2.2.2.2.2.2.2.2.2.1,x.2.2.2.2.2.2.2.2.2.2.2.2.1,())
def szO (x:Au):Int:=((D8 (frO x)).length:Int)
def Fs (t:B8) (p:List Au×List Ak) (x:Au):List Au×List Ak:=
 bif Ape t (x.1,x.2.1,())then(p.1++[x],p.2)else match Wn p.2 (x.1,x.2.1,()) (szO x)with|some r=>(p.1++[x],r)|none=>p
def Fi (t:B8) (l:List Au) (cr:List Ak):List Au×List Ak:=l.foldl (Fs t) ([],cr)
theorem Bb0 {t:B8} {l:List Au} {x:Au} {cr:List Ak}:Fi t (l++[x]) cr=Fs t (Fi t l cr) x:=by
 unfold Fi;rw[List.foldl_append];rfl
def Po (t:B8):List Au->Int
 |[]=>0
 |x::r=>(bif Ape t (x.1,x.2.1,())then 0 else szO x)+Po t r
theorem Aw1 {t:B8}: ∀ {a b:List Au},Po t (a++b)=Po t a+Po t b
 |[],b=>by simp[Po]
 |x::a,b=>by simp only[List.cons_append,Po,Aw1];omega
theorem Bmd {t:B8}: ∀(l:List Au) (p:List Au×List Ak),Ch p.2=true->
  Ch (l.foldl (Fs t) p).2=true/\I9 (l.foldl (Fs t) p).2-Po t (l.foldl (Fs t) p).1=I9 p.2-Po t p.1/\(l.foldl (Fs t) p).2.length=p.2.length/\(l.foldl (Fs t) p).1.length<=p.1.length+l.length/\ ∀x∈(l.foldl (Fs t) p).1,x∈p.1\/x∈l
 |[],p,h=>⟨h,rfl,rfl,by simp,fun x hx=>.inl hx⟩
 |y::l,p,h=>by
  rw[List.foldl_cons]
  have hst:Ch (Fs t p y).2=true/\I9 (Fs t p y).2-Po t (Fs t p y).1=I9 p.2-Po t p.1/\(Fs t p y).2.length=p.2.length/\(Fs t p y).1.length<=p.1.length+1/\ ∀x∈(Fs t p y).1,x∈p.1\/x=y:=by
   unfold Fs
   cases ha:Ape t (y.1,y.2.1,())with
   |true=>
    simp only[cond_true]
    refine⟨h,?_,by first|trivial|rfl,by simp,fun x hx=>by simpa using hx⟩
    rw[Aw1];simp only[Po,ha,cond_true];omega
   |false=>
    simp only[cond_false]
    cases hsp:Wn p.2 (y.1,y.2.1,()) (szO y)with
    |none=>exact⟨h,by first|trivial|rfl,by first|trivial|rfl,by simp,fun x hx=>.inl hx⟩
    |some r=>
     obtain⟨_,g2,g3,g4⟩:=Bwb hsp
     refine⟨g2,?_,g4,by simp,fun x hx=>by simpa using hx⟩
     dsimp only
     rw[Aw1,g3];simp only[Po,ha,cond_false];omega
  obtain⟨s1,s2,s3,s4,s5⟩:=hst
  obtain⟨i1,i2,i3,i4,i5⟩:=Bmd l (Fs t p y) s1
  refine⟨i1,by omega,by omega,by simp only[List.length_cons];omega,fun x hx=>?_⟩
  rcases i5 x hx with h|h
  .rcases s5 x h with h|h
   .exact .inl h
   .exact .inr (by rw[h];simp)
  .exact .inr (by simp[h])
theorem A8c {t:B8} {l:List Au} {cr:List Ak} (h:Ch cr=true):Ch (Fi t l cr).2=true/\I9 (Fi t l cr).2-Po t (Fi t l cr).1=I9 cr/\(Fi t l cr).2.length=cr.length/\(Fi t l cr).1.length<=l.length/\ ∀x∈(Fi t l cr).1,x∈l:=by
 obtain⟨h1,h2,h3,h4,h5⟩:=Bmd (t:=t) l ([],cr) h
 refine⟨h1,h2.trans (Int.sub_zero _),h3,Nat.le_trans h4 zq3,fun x hx=>?_⟩
 rcases h5 x hx with h|h
 .cases h
 .exact h
theorem B0h (x:Au) (h:A5 (frO x)<=536870912):Ahf (x.2.2.1,x.2.2.2.1,x.2.2.2.2.1,x.2.2.2.2.2.1,x.2.2.2.2.2.2.1,x.2.2.2.2.2.2.2.1,x.2.2.2.2.2.2.2.2.1,x.2.2.2.2.2.2.2.2.2.1,x.2.2.2.2.2.2.2.2.2.2.1,x.2.2.2.2.2.2.2.2.2.2.2.1,x.2.2.2.2.2.2.2.2.2.2.2.2.1,())=some (szO x,()):=Bx8 (frO x) h
theorem B1y {i:Nat} (h:i<=1000000000):Nat.ble (Int.toNat (i:Int)+1) (Int.toNat (IntKind.i64.wrap ((i:Int)+1)))=true:=by
 rw[w64 zq0]
 exact Nat.ble_eq_true_of_le zq0
theorem Byf (ns:List Am) (frames:List Au) (cr:List Ak) (e1:List YBs) (e2 e3:List YB) (e4 e5:Int) (e6:List Al) (e7:List Ak) (x1:List YBs) (x2 x3:List YB) (x4 cap:Int) (l:List Al) (hcr:Ch cr=true) (hl:frames.length<=20000000) (hfr:It frames) (hT:l.length<=4294967296):
  Ax Dm (ns,([]:List Au),frames,(frames.length:Int),(0:Int),e1,e2,e3,e4,e5,e6,e7,x1,x2,x3,x4,cap,l,cr,())=some (ns,(Fi (cap,l,()) frames cr).1,e1,e2,e3,e4,e5,e6,e7,x1,x2,x3,x4,cap,l,(Fi (cap,l,()) frames cr).2,()):=by
 have e:=C6 (B:=Dm) frames.length (fun i=>(ns,(Fi (cap,l,()) (frames.take i) cr).1,frames,(frames.length:Int),(i:Int),e1,e2,e3,e4,e5,e6,e7,x1,x2,x3,x4,cap,l,(Fi (cap,l,()) (frames.take i) cr).2,())) (ns,(Fi (cap,l,()) frames cr).1,e1,e2,e3,e4,e5,e6,e7,x1,x2,x3,x4,cap,l,(Fi (cap,l,()) frames cr).2,())
  (fun i hi=>by
   have hx:=List.getElem?_eq_getElem hi
   have hxm:=List.getElem_mem hi
   have htk:frames.take (i+1)=frames.take i++[frames[i]]:=by rw[List.take_add_one,hx];rfl
   rw[htk,Bb0]
   obtain⟨_,_,f3,f4,_⟩:=A8c (t:=(cap,l,())) (l:=frames.take i) hcr
   have hc8:=(Dq.1 hcr).1
   have hfo:=(hfr _ hxm).1
   have hfn:=Kq hfo
   have f5:(frames.take i).length<=i:=by simp;omega
   generalize Fi (cap,l,()) (frames.take i) cr=p at f3 f4
   generalize frames[i]=x at hx hxm hfo hfn
   obtain⟨ou,cc⟩:=p
   dsimp only at f3 f4
   unfold Dm Fs
   simp only[Ad,Ae,Aa,Ag]
   rw[Ai zq0,Ay,Nat.beq_refl,Ar,Bc hx,Ab,Bu5 _ _ hT,Ab,B1y zq0,w64 (n:=(i:Int)+1) zq0]
   dsimp only
   cases Ape (cap,l,()) (x.1,x.2.1,())with
   |true=>
    simp only[Bool.not_true,Aj,Ar,cond_true]
    rw[Ai zq1,Ar]
    rfl
   |false=>
    simp only[Bool.not_false,Ay,Ar,cond_false]
    rw[B0h x (Nat.le_trans hfn zq7),Ab,Bx7 cc (x.1,x.2.1,()) _ zq0,Ab]
    dsimp only
    cases Wn cc (x.1,x.2.1,()) (szO x)with
    |none=>rfl
    |some r=>
     dsimp only
     rw[Ai zq1]
     rfl)
  (by
   rw[List.take_length]
   unfold Dm
   simp only[Ad,Ae,Aa,Ag]
   rw[Bk zq0,Aj])
 have e0:Fi (cap,l,()) (frames.take 0) cr=([],cr):=by rw[List.take_zero];rfl
 rw[e0]at e
 exact e
end
end Go.Proofs.YthccfdmiejmbaaaGreat

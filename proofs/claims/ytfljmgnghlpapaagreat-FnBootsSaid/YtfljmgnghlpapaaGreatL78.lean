/-
  That the program and the reference answer alike, in plain terms, and that the laws answer true.
-/
import Derived.Test.YtfljmgnghlpapaaGreatM72
namespace Go.Proofs.YtfljmgnghlpapaaGreat
open Go.RowKit
set_option linter.unusedVariables false
set_option linter.unusedSimpArgs false
set_option maxRecDepth 100000
set_option maxHeartbeats 4000000
noncomputable section
def Adi (a b:Ad):Prop:=Ds a.2.2.1 b.2.2.1=false
theorem A5s {l:List Ad}:C6 (Gs l) l=true↔(∀x∈l,Cs x=true)∧l.Pairwise Adi:=by
 have hq: ∀(i:Nat) (x:Ad),l[i]? =some x→(Gs l i x=false↔Cs x=true∧C6 (fun _ (y:Ad)=>Ds y.2.2.1 x.2.2.1) (l.take i)=true):=fun i x hx=>by
  unfold Gs Es
  rw[Av6 (q:=fun y:Ad=>Ds y.2.2.1 x.2.2.1) hx (Qs _)]
  simp only[Bool.not_not,Bool.not_eq_false',Bool.and_eq_true]
 rw[Hq,List.pairwise_iff_getElem]
 constructor
 ·intro h
  refine⟨fun x hx=>?_,fun i j hi hj hij=>?_⟩
  ·obtain⟨j,hj⟩:=List.getElem?_of_mem hx
   exact((hq j x hj).1 (h j x hj)).1
  ·have h1:=((hq j l[j] (List.getElem?_eq_getElem hj)).1 (h j l[j] (List.getElem?_eq_getElem hj))).2
   rw[Hq]at h1
   exact h1 i l[i] (by rw[List.getElem?_take,if_pos hij];exact List.getElem?_eq_getElem hi)
 ·rintro⟨h1,h2⟩ j x hj
  refine(hq j x hj).2 ⟨h1 x (List.mem_of_getElem? hj),Hq.2 fun i y hi=>?_⟩
  rw[List.getElem?_take]at hi
  split at hi
  ·rename_i hlt
   obtain⟨k1,k2⟩:=List.getElem?_eq_some_iff.1 hi
   obtain⟨k3,k4⟩:=List.getElem?_eq_some_iff.1 hj
   have:=h2 i j k1 k3 hlt
   rw[k2,k4]at this
   exact this
  ·cases hi
theorem Pb {c:Int} {l:List Ad} (hl:l.length≤4294967296):Ev (c,l,())=true↔(1≤c∧c≤6)∧l.length≤12∧(Ct l:Int)≤c∧(∀x∈l,Cs x=true)∧l.Pairwise Adi:=by
 unfold Ev
 rw[G7 (c,l,()) hl]
 simp only[Bool.and_eq_true,Bool.not_eq_true',decide_eq_false_iff_not,Cu,A5s]
 constructor
 ·rintro⟨h1,h2,h3,h4⟩;exact⟨h1,by omega,by omega,h4⟩
 ·rintro⟨h1,h2,h3,h4⟩;exact⟨h1,by omega,by omega,h4⟩
theorem Bbm {l:List Ad} {i:Nat} {x:Ad} {s:List YB} (hx:l[i]? =some x) (hs:Ds x.2.2.1 s=true) (hb: ∀j y,j<i→l[j]? =some y→Ds y.2.2.1 s=false):Es l s=(i:Int):=by
 have h1:=Any (q:=fun y:Ad=>Ds y.2.2.1 s) hx hs
 have h2:=Av6 (q:=fun y:Ad=>Ds y.2.2.1 s) hx hs
 have h3:C6 (fun _ (y:Ad)=>Ds y.2.2.1 s) (l.take i)=true:=Hq.2 fun j y hj=>by
  rw[List.getElem?_take]at hj
  split at hj
  ·rename_i hlt;exact hb j y hlt hj
  ·cases hj
 rw[h3]at h2
 simp only[Bool.not_true,decide_eq_false_iff_not]at h2
 unfold Es
 omega
theorem A8z {l:List Ad} {i:Nat} {x:Ad} (hp:l.Pairwise Adi) (hx:l[i]? =some x):Es l x.2.2.1=(i:Int):=by
 refine Bbm hx (Qs _) fun j y hj hy=>?_
 rw[List.pairwise_iff_getElem]at hp
 obtain⟨k1,k2⟩:=List.getElem?_eq_some_iff.1 hy
 obtain⟨k3,k4⟩:=List.getElem?_eq_some_iff.1 hx
 have:=hp j i k1 k3 hj
 rw[k2,k4]at this
 exact this
theorem Bdy {l:List Ad}:Ct l≤l.length:=List.countP_le_length
def Bgw (t:Bp) (s:Ad) (x:Bp) (co:Int):Prop:=
 (co≠0→x=t)∧(co=0→Ev t=true∧Cs s=true∧Bo s=false∧Es t.2.1 s.2.2.1<0∧Ga t≠t.1∧t.2.1.length≠12∧x=(t.1,t.2.1++[s],()))
theorem Bhw (t:Bp) (s:Ad) (h:Bg t+Aw s≤1073741824):Tot (fun r=>Bgw t s r.1 r.2.1) (S7 t s):=by
 have hl:t.2.1.length≤Bg t:=by simp only[Bg];omega
 unfold S7 Ac8
 simp only[Ac,Ae,Ab,Al]
 rw[T1 t zq0,Ai,Vz t zq0,Ai,Oy s zq0,Ah0 t _ zq0,Tw t zq0,M4 s zq0]
 simp only[Ai]
 have no: ∀c:Int,c≠0→Tot (fun r:Bp×YI=>Bgw t s r.1 r.2.1) (some (t,(c,()))):=fun c hc=>Ah ⟨fun _=>rfl,fun h=>(hc h).elim⟩
 refine Ar (fun _=>no 1 zq4) fun h1=>Ar (fun _=>no 1 zq4) fun h2=>Ar (fun _=>no 1 zq4) fun h3=>Ar (fun _=>no 3 zq4) fun h4=>Ar (fun _=>no 7 zq4) fun h5=>Ar (fun _=>no 7 zq4) fun h6=>?_
 refine Dh zq1 (Ah ⟨fun h=>(h rfl).elim,fun _=>?_⟩)
 simp only[Bool.not_eq_false',decide_eq_false_iff_not]at h1 h2 h4
 refine⟨h1,h2,h3,by omega,by simpa using h5,?_,rfl⟩
 intro e
 rw[e]at h6
 simp at h6
def TkS (s r:Ad):Prop:=Aw r≤Aw s∧(Cs s=true→Cs r=true)∧r.2.2.1=s.2.2.1∧(Bo r=true∨Bo r=Bo s)∧r.1=s.1
theorem A5t {p:Bb} {n:Int} (h:D7 p=true):D7 (Hz p n)=true:=by
 unfold Hz
 cases D7 p && inR n 0 1000000 with
 |true=>exact Ayl h
 |false=>exact h
theorem Bdz {s:Ad} {c:Bt} {p:Bb} (h:Cs s=true) (hd:Bo s=false) (hc:Km c=true) (h1:c.1=(Fx s).1) (h2:c.2.1=(Fx s).2.1) (hp:D7 p=true):
  Cs (s.1,s.2.1,s.2.2.1,c.1,c.2.1,c.2.2.1,c.2.2.2.1,c.2.2.2.2.1,c.2.2.2.2.2.1,c.2.2.2.2.2.2.1,c.2.2.2.2.2.2.2.1,c.2.2.2.2.2.2.2.2.1,c.2.2.2.2.2.2.2.2.2.1,c.2.2.2.2.2.2.2.2.2.2.1,c.2.2.2.2.2.2.2.2.2.2.2.1,c.2.2.2.2.2.2.2.2.2.2.2.2.1,c.2.2.2.2.2.2.2.2.2.2.2.2.2.1,c.2.2.2.2.2.2.2.2.2.2.2.2.2.2.1,p.1,p.2.1,p.2.2.1,X4 s,Qr s,Bo s,())=true:=by
 obtain⟨q1,q2,q3,q4,q5,q6,q7,q8,q9⟩:=Auf h hd
 obtain⟨c0,c1,c2,c3,c4,c5,c6,c7,c8,c9,c10,c11,c12,c13,c14,⟨⟩⟩:=c
 obtain⟨p0,p1,p2,⟨⟩⟩:=p
 rw[hd]
 have h1:c0=s.2.2.2.1:=h1
 have h2:c1=s.2.2.2.2.1:=h2
 exact Bbl q1 q2 q3 hc (h1.trans q6) (by rw[h2];exact q7) hp q4 q9
theorem Bgx (s:Ad) (n:YI) (h:Aw s≤8388608):Tot (TkS s) (L6 s n):=by
 have hch:=A5n s
 have hpa:=A2t s
 have hpt:=Az8 (Ew s) n.1
 unfold L6 Xa
 simp only[Ac,Ae,Ab]
 rw[M4 s zq0,Ai,Oy s zq0,Ai,Bw]
 simp only[Ai]
 have no:Tot (TkS s) (some s):=Ah ⟨Nat.le_refl _,fun h=>h,rfl,.inr rfl,rfl⟩
 refine Ar (fun _=>no) fun h1=>Ar (fun _=>no) fun h2=>Ar (fun _=>no) fun h3=>?_
 have ho:Cs s=true:=by simpa using h1
 have hd:Bo s=false:=h2
 obtain⟨q1,q2,q3,q4,q5,q6,q7,q8,q9⟩:=Auf ho hd
 refine Ar (fun _=>?_) fun h4=>?_
 ·rw[Ayo s zq0 ho,Ai]
  exact Ah ⟨Aue s,fun _=>Aic ho,rfl,.inl rfl,rfl⟩
 refine Aj (A8y (Fx s) n zq0 q5) fun c ⟨k1,k2,k3,k4,k5⟩=>?_
 rw[show Qp _ _=_ from A8m (Ew s) n zq0,Ai]
 have hp:=A5t (n:=n.1) q8
 generalize Hz (Ew s) n.1=pt at hpt hp ⊢
 refine Ah ⟨?_,fun _=>Bdz ho hd k2 k3 k5 hp,rfl,.inr rfl,rfl⟩
 have hn:=Ix s
 simp only[Bs]at k1
 simp only[A1]at hpt
 simp only[Bs,A1]at hn
 simp only[Aw];omega
def C7 (n:YI) (x:Ad):Ad:=(L6 x n).getD x
theorem Kv {n:YI} {x:Ad} (h:Aw x≤8388608):L6 x n=some (C7 n x)∧TkS x (C7 n x):=by
 obtain⟨r,e,hr⟩:=Bgx x n h
 unfold C7
 rw[e];exact⟨rfl,hr⟩
def Eo (n:Int) (x:Ad):Bool:= !Bo x || decide (IntKind.i64.wrap (n-X4 x)≤10)
theorem A22 {n:Int} {x:Ad} (h:Eo n x=false):Bo x=true:=by
 unfold Eo at h
 cases hd:Bo x with
 |true=>rfl
 |false=>rw[hd]at h;cases h
def Qv (t:Bp) (n:YI):Bp:=bif Ev t && inR n.1 0 1000000 then(t.1,(t.2.1.map (C7 n)).filter (Eo n.1),())else t
theorem A5u {l:List Ad} {g:Ad→Ad} (h: ∀x∈l,Aw (g x)≤Aw x):Co Aw (l.map g)≤Co Aw l:=by
 induction l with
 |nil=>exact Nat.le_refl _
 |cons a r ih=>
  have h1:=h a zq3
  have h2:=ih (fun x hx=>h x (by simp[hx]))
  simp only[List.map_cons,Co];omega
theorem J7 {l:List Ad} {x:Ad} (h:x∈l):Aw x≤Co Aw l:=by
 obtain⟨i,hi⟩:=List.getElem?_of_mem h
 have:=Fb (f:=Aw) hi
 omega
theorem Bbn (t:Bp) (n:YI) (h:Bg t≤8388608):Ac7 t n=some (Qv t n):=by
 obtain⟨cap,l,⟨⟩⟩:=t
 have h:Bg (cap,l,())≤8388608:=h
 have h':=h
 simp only[Bg]at h'
 have hl:l.length≤8388608:=by omega
 unfold Ac7 Acr Qv
 simp only[Ac,Ae,Ab]
 rw[Vz (cap,l,()) zq0,T1 (cap,l,()) zq0,Bw]
 simp only[Ai]
 cases Ev (cap,l,())with
 |false=>rfl
 |true=>
  cases inR n.1 0 1000000 with
  |false=>rfl
  |true=>
   simp only[Bool.not_true,Au,Bool.and_true,cond_true]
   have hs:=B8 (B:=Id) l.length (fun i=>(n.1,l,(l.length:Int),(i:Int),(0:Int),([]:List Ad),cap,((l.take i).map (C7 n)).filter (Eo n.1),())) ((0:Int),([]:List Ad),cap,(l.map (C7 n)).filter (Eo n.1),())
    (fun i hi=>by
     have hx:=List.getElem?_eq_getElem hi
     have hnx:=Fb (f:=Aw) hx
     obtain⟨e1,e2⟩:=Kv (n:=n) (x:=l[i]) zq0
     have hsn:((l.take (i+1)).map (C7 n)).filter (Eo n.1)=((l.take i).map (C7 n)).filter (Eo n.1)++(bif Eo n.1 (C7 n l[i])then [C7 n l[i]]else []):=by
      rw[←Dg hx,List.map_append,List.filter_append]
      simp only[List.map_cons,List.map_nil,List.filter_cons,List.filter_nil]
      cases Eo n.1 (C7 n l[i])<;>simp
     have hle:(((l.take i).map (C7 n)).filter (Eo n.1)).length≤i:=by
      have:=List.length_filter_le (Eo n.1) ((l.take i).map (C7 n))
      simp only[List.length_map,List.length_take]at this;omega
     unfold Id
     simp only[Ac,Ae,Ab,Al,By hi,A4,Bk hx,Ai]
     rw[show((n.1,()):YI)=n from rfl,e1]
     simp only[Ai]
     rw[w64 zq0,An A73]
     simp only[A8]
     rw[hsn]
     have hk:Eo n.1 (C7 n l[i])=(!(C7 n l[i]).2.2.2.2.2.2.2.2.2.2.2.2.2.2.2.2.2.2.2.2.2.2.2.1 || decide (IntKind.i64.wrap (n.1-(C7 n l[i]).2.2.2.2.2.2.2.2.2.2.2.2.2.2.2.2.2.2.2.2.2.1)≤10)):=rfl
     rw[hk]
     cases (C7 n l[i]).2.2.2.2.2.2.2.2.2.2.2.2.2.2.2.2.2.2.2.2.2.2.2.1 with
     |false=>simp only[Bool.not_false,A4,Bool.true_or,cond_true];rfl
     |true=>
      simp only[Bool.not_true,Au,Bool.false_or]
      cases decide (IntKind.i64.wrap (n.1-(C7 n l[i]).2.2.2.2.2.2.2.2.2.2.2.2.2.2.2.2.2.2.2.2.2.1)≤10)with
      |true=>simp only[A4,cond_true];rfl
      |false=>simp only[Au,cond_false,List.append_nil];rfl)
    (by unfold Id;simp only[Ac,Ab,Bz,Au,List.take_length])
   rw[show As Id (n.1,l,(l.length:Int),(0:Int),(0:Int),([]:List Ad),cap,([]:List Ad),())=_ from hs]
   rfl
theorem A80 (t:Bp) (n:YI) (h:Bg t≤8388608):Bg (Qv t n)≤Bg t:=by
 obtain⟨cap,l,⟨⟩⟩:=t
 simp only[Bg]at h
 unfold Qv
 cases Ev (cap,l,()) && inR n.1 0 1000000 with
 |false=>exact Nat.le_refl _
 |true=>
  show((l.map (C7 n)).filter (Eo n.1)).length+Co Aw ((l.map (C7 n)).filter (Eo n.1))≤l.length+Co Aw l
  have h1:=Adg (f:=Aw) (p:=Eo n.1) (l:=l.map (C7 n))
  have h2:=A5u (l:=l) (g:=C7 n) (fun x hx=>(Kv (n:=n) (by have:=J7 hx;omega)).2.1)
  have h3:=List.length_filter_le (Eo n.1) (l.map (C7 n))
  rw[List.length_map]at h3
  omega
theorem Am3 {l:List Ad} {n:Int}:Ct (l.filter (Eo n))=Ct l:=by
 unfold Ct
 rw[List.countP_filter]
 refine List.countP_congr fun x hx=>?_
 cases hk:Eo n x with
 |true=>simp
 |false=>simp[A22 hk]
theorem Bbo {l:List Ad} {n:YI} (h:Co Aw l≤8388608):Ct (l.map (C7 n))≤Ct l:=by
 unfold Ct
 rw[List.countP_map]
 refine List.countP_mono_left fun x hx hd=>?_
 obtain⟨_,_,_,q,_⟩:=(Kv (n:=n) (x:=x) (by have:=J7 hx;omega)).2
 simp only[Function.comp,Bool.not_eq_true']at hd ⊢
 rcases q with q|q
 ·rw[q]at hd;cases hd
 ·rw[←q];exact hd
theorem Bd0 {t:Bp} {n:YI} (h:Bg t≤8388608) (ho:Ev t=true):Ev (Qv t n)=true∧Ga (Qv t n)≤Ga t:=by
 obtain⟨cap,l,⟨⟩⟩:=t
 have h':=h
 simp only[Bg]at h'
 have hl:l.length≤4294967296:=by omega
 obtain⟨q1,q2,q3,q4,q5⟩:=(Pb hl).1 ho
 unfold Qv
 cases hc:Ev (cap,l,()) && inR n.1 0 1000000 with
 |false=>exact⟨ho,Int.le_refl _⟩
 |true=>
  simp only[cond_true]
  have h3:=List.length_filter_le (Eo n.1) (l.map (C7 n))
  rw[List.length_map]at h3
  have h4:Ct ((l.map (C7 n)).filter (Eo n.1))≤Ct l:=by rw[Am3];exact Bbo zq0
  have hl2:((l.map (C7 n)).filter (Eo n.1)).length≤4294967296:=by omega
  refine⟨(Pb hl2).2 ⟨q1,by omega,by omega,fun x hx=>?_,List.Pairwise.filter _ ?_⟩,?_⟩
  ·obtain⟨y,hy,rfl⟩:=List.mem_map.1 (List.mem_filter.1 hx).1
   exact(Kv (n:=n) (x:=y) (by have:=J7 hy;omega)).2.2.1 (q4 y hy)
  ·rw[List.pairwise_map]
   refine q5.imp_of_mem fun {a b} ha hb hab=>?_
   have e1:=(Kv (n:=n) (x:=a) (by have:=J7 ha;omega)).2.2.2.1
   have e2:=(Kv (n:=n) (x:=b) (by have:=J7 hb;omega)).2.2.2.1
   unfold Adi
   rw[e1,e2];exact hab
  ·rw[G7 _ hl2,G7 _ hl]
   simp only
   omega
theorem A23 (t:Bp) (h:Bg t≤4294967296):Ac6 t t=some (true,()):=by
 obtain⟨c,l,⟨⟩⟩:=t
 simp only[Bg]at h
 have hs:=B8 (B:=Ic) l.length (fun i=>((i:Int),c,l,c,l,())) (.inr ())
  (fun i hi=>by
   have hx:=List.getElem?_eq_getElem hi
   have hnx:=Fb (f:=Aw) hx
   unfold Ic
   simp only[Ac,Ae,Ab,Al,By hi,A4,Bk hx,Ai]
   rw[A0c l[i] zq0,Ai,w64 zq0]
   rfl)
  (by unfold Ic;simp only[Ac,Ab,Bz,Au])
 unfold Ac6 Acj
 simp only[Ac,Ae,Ab,Dn,bne_self_eq_false,Au]
 rw[show As Ic ((0:Int),c,l,c,l,())=_ from hs]
 rfl
end
end Go.Proofs.YtfljmgnghlpapaaGreat

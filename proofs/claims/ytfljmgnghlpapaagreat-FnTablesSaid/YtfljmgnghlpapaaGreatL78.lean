/-
  That the program and the reference answer alike, in plain terms, and that the laws answer true.
-/
import Derived.Test.YtfljmgnghlpapaaGreatM72
namespace Go.Proofs.YtfljmgnghlpapaaGreat
open Go.RowKit
set_option linter.unusedVariables false
set_option linter.unusedSimpArgs false
set_option maxRecDepth 100000
set_option maxHeartbeats 4000000
noncomputable section
def Atf (a b:Af):Prop:=D7 a.2.2.1 b.2.2.1=false
theorem Aqs {l:List Af}:Dk (H9 l) l=true↔(∀x∈l,C6 x=true)∧l.Pairwise Atf:=by
 have hq: ∀(i:Nat) (x:Af),l[i]? =some x→(H9 l i x=false↔C6 x=true∧Dk (fun _ (y:Af)=>D7 y.2.2.1 x.2.2.1) (l.take i)=true):=fun i x hx=>by
  unfold H9 Eb
  rw[Ari (q:=fun y:Af=>D7 y.2.2.1 x.2.2.1) hx (P9 _)]
  simp only[Bool.not_not,Bool.not_eq_false',Bool.and_eq_true]
 rw[Jj,List.pairwise_iff_getElem]
 constructor
 ·intro h
  refine⟨fun x hx=>?_,fun i j hi hj hij=>?_⟩
  ·obtain⟨j,hj⟩:=List.getElem?_of_mem hx
   exact((hq j x hj).1 (h j x hj)).1
  ·have h1:=((hq j l[j] (List.getElem?_eq_getElem hj)).1 (h j l[j] (List.getElem?_eq_getElem hj))).2
   rw[Jj]at h1
   exact h1 i l[i] (by rw[List.getElem?_take,if_pos hij];exact List.getElem?_eq_getElem hi)
 ·rintro⟨h1,h2⟩ j x hj
  refine(hq j x hj).2 ⟨h1 x (List.mem_of_getElem? hj),Jj.2 fun i y hi=>?_⟩
  rw[List.getElem?_take]at hi
  split at hi
  ·rename_i hlt
   obtain⟨k1,k2⟩:=List.getElem?_eq_some_iff.1 hi
   obtain⟨k3,k4⟩:=List.getElem?_eq_some_iff.1 hj
   have:=h2 i j k1 k3 hlt
   rw[k2,k4]at this
   exact this
  ·cases hi
theorem Oz {c:Int} {l:List Af} (hl:l.length≤4294967296):Ec (c,l,())=true↔(1≤c∧c≤6)∧l.length≤12∧(Dl l:Int)≤c∧(∀x∈l,C6 x=true)∧l.Pairwise Atf:=by
 unfold Ec
 rw[Jl (c,l,()) hl]
 simp only[Bool.and_eq_true,Bool.not_eq_true',decide_eq_false_iff_not,E8,Aqs]
 constructor
 ·rintro⟨h1,h2,h3,h4⟩;exact⟨h1,by omega,by omega,h4⟩
 ·rintro⟨h1,h2,h3,h4⟩;exact⟨h1,by omega,by omega,h4⟩
theorem Aqt {l:List Af} {s:List YB} (h:Eb l s<0): ∀x∈l,D7 x.2.2.1 s=false:=fun x hx=>by
 obtain⟨i,hi⟩:=List.getElem?_of_mem hx
 cases hs:D7 x.2.2.1 s with
 |false=>rfl
 |true=>
  have:=(Vs (q:=fun y:Af=>D7 y.2.2.1 s) hi hs).1
  unfold Eb at h
  omega
theorem Alk {l:List Af} {i:Nat} {x:Af} {s:List YB} (hx:l[i]? =some x) (hs:D7 x.2.2.1 s=true) (hb: ∀j y,j<i→l[j]? =some y→D7 y.2.2.1 s=false):Eb l s=(i:Int):=by
 have h1:=Vs (q:=fun y:Af=>D7 y.2.2.1 s) hx hs
 have h2:=Ari (q:=fun y:Af=>D7 y.2.2.1 s) hx hs
 have h3:Dk (fun _ (y:Af)=>D7 y.2.2.1 s) (l.take i)=true:=Jj.2 fun j y hj=>by
  rw[List.getElem?_take]at hj
  split at hj
  ·rename_i hlt;exact hb j y hlt hj
  ·cases hj
 rw[h3]at h2
 simp only[Bool.not_true,decide_eq_false_iff_not]at h2
 unfold Eb
 omega
theorem Atg {l:List Af} {i:Nat} {x:Af} (hp:l.Pairwise Atf) (hx:l[i]? =some x):Eb l x.2.2.1=(i:Int):=by
 refine Alk hx (P9 _) fun j y hj hy=>?_
 rw[List.pairwise_iff_getElem]at hp
 obtain⟨k1,k2⟩:=List.getElem?_eq_some_iff.1 hy
 obtain⟨k3,k4⟩:=List.getElem?_eq_some_iff.1 hx
 have:=hp j i k1 k3 hj
 rw[k2,k4]at this
 exact this
theorem Ath {l:List Af} {x:Af}:Dl (l++[x])=Dl l+(if Do x=true then 0 else 1):=by
 unfold Dl
 rw[List.countP_append]
 cases h:Do x<;>simp[List.countP_cons,h]
theorem Aw0 {l:List Af}:Dl l≤l.length:=List.countP_le_length
def Aw1 (t:A7) (s:Af) (x:A7) (co:Int):Prop:=
 (co≠0→x=t)∧(co=0→Ec t=true∧C6 s=true∧Do s=false∧Eb t.2.1 s.2.2.1<0∧Dy t≠t.1∧t.2.1.length≠12∧x=(t.1,t.2.1++[s],()))
theorem Ax6 (t:A7) (s:Af) (h:A3 t+Az s≤1073741824):Tot (fun r=>Aw1 t s r.1 r.2.1) (Kc t s):=by
 have hl:t.2.1.length≤A3 t:=by simp only[A3];omega
 unfold Kc N4
 simp only[Ah,Ai,Ab,Am]
 rw[Ov t zq0,Ak,Gb t zq0,Ak,Ru s zq0,Rw t _ zq0,Rx t zq0,Jk s zq0]
 simp only[Ak]
 have no: ∀c:Int,c≠0→Tot (fun r:A7×YI=>Aw1 t s r.1 r.2.1) (some (t,(c,()))):=fun c hc=>Ae ⟨fun _=>rfl,fun h=>(hc h).elim⟩
 refine An (fun _=>no 1 zq3) fun h1=>An (fun _=>no 1 zq3) fun h2=>An (fun _=>no 1 zq3) fun h3=>An (fun _=>no 3 zq3) fun h4=>An (fun _=>no 7 zq3) fun h5=>An (fun _=>no 7 zq3) fun h6=>?_
 refine Dr zq1 (Ae ⟨fun h=>(h rfl).elim,fun _=>?_⟩)
 simp only[Bool.not_eq_false',decide_eq_false_iff_not]at h1 h2 h4
 refine⟨h1,h2,h3,by omega,by simpa using h5,?_,rfl⟩
 intro e
 rw[e]at h6
 simp at h6
theorem Avg {t:A7} {s:Af} {x:A7} {co:Int} (hl:t.2.1.length≤4294967296) (h:Aw1 t s x co) (hc:co=0):Ec x=true∧Dy x=Dy t+1∧Eb x.2.1 s.2.2.1=(t.2.1.length:Int)∧Dy t<t.1:=by
 obtain⟨h1,h2,h3,h4,h5,h6,rfl⟩:=h.2 hc
 obtain⟨c,l,⟨⟩⟩:=t
 dsimp only at hl h1 h4 h5 h6 ⊢
 obtain⟨q1,q2,q3,q4,q5⟩:=(Oz hl).1 h1
 have hl2:(l++[s]).length≤4294967296:=by simp;omega
 have e1:Dy (c,l,())=((Dl l:Nat):Int):=Jl (c,l,()) hl
 have e2:Dy (c,l++[s],())=((Dl (l++[s]):Nat):Int):=Jl (c,l++[s],()) hl2
 have h5:Dy (c,l,())≠c:=h5
 have e3:Dl (l++[s])=Dl l+1:=by rw[Ath,h3];rfl
 have hnone:=Aqt h4
 refine⟨(Oz hl2).2 ⟨q1,by simp;omega,by rw[e3];omega,fun x hx=>?_,?_⟩,(show Dy (c,l++[s],())=Dy (c,l,())+1 by rw[e1,e2,e3];omega),?_,(show Dy (c,l,())<c by rw[e1]at h5 ⊢;omega)⟩
 ·rcases List.mem_append.1 hx with hx|hx
  ·exact q4 x hx
  ·simp at hx;rw[hx];exact h2
 ·refine List.pairwise_append.2 ⟨q5,List.pairwise_singleton _ _,fun a ha b hb=>?_⟩
  simp at hb;subst hb
  exact hnone a ha
 ·refine Alk (x:=s) (by simp) (P9 _) fun j y hj hy=>?_
  rw[List.getElem?_append_left hj]at hy
  exact hnone y (List.mem_of_getElem? hy)
def Aw2 (t:A7) (n:Int) (s:Af) (x:A7) (b:Bool):Prop:=
 (b=false→x=t)∧(b=true→0≤n∧n<(t.2.1.length:Int)∧x=(t.1,t.2.1.set n.toNat s,())∧Ec x=true)
theorem A0n (t:A7) (n:YI) (s:Af) (h:A3 t+Az s≤1073741824):Tot (fun r=>Aw2 t n.1 s r.1 r.2.1) (Kd t n s):=by
 have hl:t.2.1.length≤A3 t:=by simp only[A3];omega
 have hn:A3 (t.1,t.2.1.set n.1.toNat s,())≤A3 t+Az s:=by
  have:=X8 (f:=Az) (l:=t.2.1) (i:=n.1.toNat) (x:=s)
  simp only[A3,List.length_set];omega
 unfold Kd N5
 simp only[Ah,Ai,Ab,Am]
 rw[Ov t zq0,Ak,Gb t zq0,Ak,Jk s zq0]
 simp only[Ak]
 have no:Tot (fun r:A7×(Bool×Unit)=>Aw2 t n.1 s r.1 r.2.1) (some (t,(false,()))):=Ae ⟨fun _=>rfl,fun h=>(by cases h)⟩
 refine An (fun _=>no) fun h1=>An (fun _=>no) fun h2=>An (fun _=>no) fun h3=>?_
 simp only[decide_eq_false_iff_not]at h2 h3
 have hlt:n.1.toNat<t.2.1.length:=by omega
 have hid:idx t.2.1 n.1=some t.2.1[n.1.toNat]:=by unfold idx;rw[if_pos zq0];exact List.getElem?_eq_getElem hlt
 rw[hid]
 simp only[Ak]
 rw[Gb _ zq0]
 simp only[Ak]
 refine An (fun _=>no) fun h4=>Ae ⟨fun h=>(by cases h),fun _=>⟨by omega,by omega,rfl,?_⟩⟩
 simpa using h4
theorem Azs {t:A7} {n:Int} {s:Af} {x:A7} {b:Bool} (hl:t.2.1.length≤4294967296) (h:Aw2 t n s x b) (hb:b=true):Ec x=true∧Eb x.2.1 s.2.2.1=n:=by
 obtain⟨h1,h2,rfl,h3⟩:=h.2 hb
 refine⟨h3,?_⟩
 obtain⟨_,_,_,_,q5⟩:=(Oz (by simpa using hl)).1 h3
 have:=Atg q5 (i:=n.toNat) (x:=s) (by rw[List.getElem?_set_self zq0])
 show Eb (t.2.1.set n.toNat s) s.2.2.1=n
 rw[this];omega
def TkS (s r:Af):Prop:=Az r≤Az s∧(C6 s=true→C6 r=true)∧r.2.2.1=s.2.2.1∧(Do r=true∨Do r=Do s)∧r.1=s.1
theorem Aqu {p:A4} {n:Int} (h:Cz p=true):Cz (Fw p n)=true:=by
 unfold Fw
 cases Cz p && inR n 0 1000000 with
 |true=>exact Alh h
 |false=>exact h
theorem Aw3 {s:Af} {c:Bl} {p:A4} (h:C6 s=true) (hd:Do s=false) (hc:H0 c=true) (h1:c.1=(Ek s).1) (h2:c.2.1=(Ek s).2.1) (hp:Cz p=true):
  C6 (s.1,s.2.1,s.2.2.1,c.1,c.2.1,c.2.2.1,c.2.2.2.1,c.2.2.2.2.1,c.2.2.2.2.2.1,c.2.2.2.2.2.2.1,c.2.2.2.2.2.2.2.1,c.2.2.2.2.2.2.2.2.1,c.2.2.2.2.2.2.2.2.2.1,c.2.2.2.2.2.2.2.2.2.2.1,c.2.2.2.2.2.2.2.2.2.2.2.1,c.2.2.2.2.2.2.2.2.2.2.2.2.1,c.2.2.2.2.2.2.2.2.2.2.2.2.2.1,c.2.2.2.2.2.2.2.2.2.2.2.2.2.2.1,p.1,p.2.1,p.2.2.1,Rt s,Ml s,Do s,())=true:=by
 obtain⟨q1,q2,q3,q4,q5,q6,q7,q8,q9⟩:=Aia h hd
 obtain⟨c0,c1,c2,c3,c4,c5,c6,c7,c8,c9,c10,c11,c12,c13,c14,⟨⟩⟩:=c
 obtain⟨p0,p1,p2,⟨⟩⟩:=p
 rw[hd]
 have h1:c0=s.2.2.2.1:=h1
 have h2:c1=s.2.2.2.2.1:=h2
 exact Avf q1 q2 q3 hc (h1.trans q6) (by rw[h2];exact q7) hp q4 q9
theorem Azt (s:Af) (n:YI) (h:Az s≤8388608):Tot (TkS s) (Iu s n):=by
 have hch:=Aqn s
 have hpa:=Aod s
 have hpt:=Amq (Dq s) n.1
 unfold Iu Q7
 simp only[Ah,Ai,Ab]
 rw[Jk s zq0,Ak,Ru s zq0,Ak,D0]
 simp only[Ak]
 have no:Tot (TkS s) (some s):=Ae ⟨Nat.le_refl _,fun h=>h,rfl,.inr rfl,rfl⟩
 refine An (fun _=>no) fun h1=>An (fun _=>no) fun h2=>An (fun _=>no) fun h3=>?_
 have ho:C6 s=true:=by simpa using h1
 have hd:Do s=false:=h2
 obtain⟨q1,q2,q3,q4,q5,q6,q7,q8,q9⟩:=Aia ho hd
 refine An (fun _=>?_) fun h4=>?_
 ·rw[Ave s zq0 ho,Ak]
  exact Ae ⟨Atd s,fun _=>Awz ho,rfl,.inl rfl,rfl⟩
 refine Ag (Ate (Ek s) n zq0 q5) fun c ⟨k1,k2,k3,k4,k5⟩=>?_
 rw[show Me _ _=_ from As3 (Dq s) n zq0,Ak]
 have hp:=Aqu (n:=n.1) q8
 generalize Fw (Dq s) n.1=pt at hpt hp ⊢
 refine Ae ⟨?_,fun _=>Aw3 ho hd k2 k3 k5 hp,rfl,.inr rfl,rfl⟩
 have hn:=Gl s
 simp only[Bf]at k1
 simp only[Av]at hpt
 simp only[Bf,Av]at hn
 simp only[Az];omega
def Eo (n:YI) (x:Af):Af:=(Iu x n).getD x
theorem Qg {n:YI} {x:Af} (h:Az x≤8388608):Iu x n=some (Eo n x)∧TkS x (Eo n x):=by
 obtain⟨r,e,hr⟩:=Azt x n h
 unfold Eo
 rw[e];exact⟨rfl,hr⟩
def Et (n:Int) (x:Af):Bool:= !Do x || decide (IntKind.i64.wrap (n-Rt x)≤10)
theorem Aw4 {n:Int} {x:Af} (h:Et n x=false):Do x=true:=by
 unfold Et at h
 cases hd:Do x with
 |true=>rfl
 |false=>rw[hd]at h;cases h
def Jo (t:A7) (n:YI):A7:=bif Ec t && inR n.1 0 1000000 then(t.1,(t.2.1.map (Eo n)).filter (Et n.1),())else t
theorem Aqv {l:List Af} {g:Af→Af} (h: ∀x∈l,Az (g x)≤Az x):C4 Az (l.map g)≤C4 Az l:=by
 induction l with
 |nil=>exact Nat.le_refl _
 |cons a r ih=>
  have h1:=h a (by simp)
  have h2:=ih (fun x hx=>h x (by simp[hx]))
  simp only[List.map_cons,C4];omega
theorem R4 {l:List Af} {x:Af} (h:x∈l):Az x≤C4 Az l:=by
 obtain⟨i,hi⟩:=List.getElem?_of_mem h
 have:=Ia (f:=Az) hi
 omega
theorem Avh (t:A7) (n:YI) (h:A3 t≤8388608):U4 t n=some (Jo t n):=by
 obtain⟨cap,l,⟨⟩⟩:=t
 have h:A3 (cap,l,())≤8388608:=h
 have h':=h
 simp only[A3]at h'
 have hl:l.length≤8388608:=by omega
 unfold U4 Uu Jo
 simp only[Ah,Ai,Ab]
 rw[Gb (cap,l,()) zq0,Ov (cap,l,()) zq0,D0]
 simp only[Ak]
 cases Ec (cap,l,())with
 |false=>rfl
 |true=>
  cases inR n.1 0 1000000 with
  |false=>rfl
  |true=>
   simp only[Bool.not_true,A1,Bool.and_true,cond_true]
   have hs:=Co (B:=F7) l.length (fun i=>(n.1,l,(l.length:Int),(i:Int),(0:Int),([]:List Af),cap,((l.take i).map (Eo n)).filter (Et n.1),())) ((0:Int),([]:List Af),cap,(l.map (Eo n)).filter (Et n.1),())
    (fun i hi=>by
     have hx:=List.getElem?_eq_getElem hi
     have hnx:=Ia (f:=Az) hx
     obtain⟨e1,e2⟩:=Qg (n:=n) (x:=l[i]) zq0
     have hsn:((l.take (i+1)).map (Eo n)).filter (Et n.1)=((l.take i).map (Eo n)).filter (Et n.1)++(bif Et n.1 (Eo n l[i])then [Eo n l[i]]else []):=by
      rw[←Ew hx,List.map_append,List.filter_append]
      simp only[List.map_cons,List.map_nil,List.filter_cons,List.filter_nil]
      cases Et n.1 (Eo n l[i])<;>simp
     have hle:(((l.take i).map (Eo n)).filter (Et n.1)).length≤i:=by
      have:=List.length_filter_le (Et n.1) ((l.take i).map (Eo n))
      simp only[List.length_map,List.length_take]at this;omega
     unfold F7
     simp only[Ah,Ai,Ab,Am,Db hi,A9,B7 hx,Ak]
     rw[show((n.1,()):YI)=n from rfl,e1]
     simp only[Ak]
     rw[w64 zq0,Ao zq7]
     simp only[Bd]
     rw[hsn]
     have hk:Et n.1 (Eo n l[i])=(!(Eo n l[i]).2.2.2.2.2.2.2.2.2.2.2.2.2.2.2.2.2.2.2.2.2.2.2.1 || decide (IntKind.i64.wrap (n.1-(Eo n l[i]).2.2.2.2.2.2.2.2.2.2.2.2.2.2.2.2.2.2.2.2.2.1)≤10)):=rfl
     rw[hk]
     cases (Eo n l[i]).2.2.2.2.2.2.2.2.2.2.2.2.2.2.2.2.2.2.2.2.2.2.2.1 with
     |false=>simp only[Bool.not_false,A9,Bool.true_or,cond_true];rfl
     |true=>
      simp only[Bool.not_true,A1,Bool.false_or]
      cases decide (IntKind.i64.wrap (n.1-(Eo n l[i]).2.2.2.2.2.2.2.2.2.2.2.2.2.2.2.2.2.2.2.2.2.1)≤10)with
      |true=>simp only[A9,cond_true];rfl
      |false=>simp only[A1,cond_false,List.append_nil];rfl)
    (by unfold F7;simp only[Ah,Ab,Dc,A1,List.take_length])
   rw[show As F7 (n.1,l,(l.length:Int),(0:Int),(0:Int),([]:List Af),cap,([]:List Af),())=_ from hs]
   rfl
theorem Ati (t:A7) (n:YI) (h:A3 t≤8388608):A3 (Jo t n)≤A3 t:=by
 obtain⟨cap,l,⟨⟩⟩:=t
 simp only[A3]at h
 unfold Jo
 cases Ec (cap,l,()) && inR n.1 0 1000000 with
 |false=>exact Nat.le_refl _
 |true=>
  show((l.map (Eo n)).filter (Et n.1)).length+C4 Az ((l.map (Eo n)).filter (Et n.1))≤l.length+C4 Az l
  have h1:=U9 (f:=Az) (p:=Et n.1) (l:=l.map (Eo n))
  have h2:=Aqv (l:=l) (g:=Eo n) (fun x hx=>(Qg (n:=n) (by have:=R4 hx;omega)).2.1)
  have h3:=List.length_filter_le (Et n.1) (l.map (Eo n))
  rw[List.length_map]at h3
  omega
theorem Aol {l:List Af} {n:Int}:Dl (l.filter (Et n))=Dl l:=by
 unfold Dl
 rw[List.countP_filter]
 refine List.countP_congr fun x hx=>?_
 cases hk:Et n x with
 |true=>simp
 |false=>simp[Aw4 hk]
theorem Avi {l:List Af} {n:YI} (h:C4 Az l≤8388608):Dl (l.map (Eo n))≤Dl l:=by
 unfold Dl
 rw[List.countP_map]
 refine List.countP_mono_left fun x hx hd=>?_
 obtain⟨_,_,_,q,_⟩:=(Qg (n:=n) (x:=x) (by have:=R4 hx;omega)).2
 simp only[Function.comp,Bool.not_eq_true']at hd ⊢
 rcases q with q|q
 ·rw[q]at hd;cases hd
 ·rw[←q];exact hd
theorem Aw5 {t:A7} {n:YI} (h:A3 t≤8388608) (ho:Ec t=true):Ec (Jo t n)=true∧Dy (Jo t n)≤Dy t:=by
 obtain⟨cap,l,⟨⟩⟩:=t
 have h':=h
 simp only[A3]at h'
 have hl:l.length≤4294967296:=by omega
 obtain⟨q1,q2,q3,q4,q5⟩:=(Oz hl).1 ho
 unfold Jo
 cases hc:Ec (cap,l,()) && inR n.1 0 1000000 with
 |false=>exact⟨ho,Int.le_refl _⟩
 |true=>
  simp only[cond_true]
  have h3:=List.length_filter_le (Et n.1) (l.map (Eo n))
  rw[List.length_map]at h3
  have h4:Dl ((l.map (Eo n)).filter (Et n.1))≤Dl l:=by rw[Aol];exact Avi zq0
  have hl2:((l.map (Eo n)).filter (Et n.1)).length≤4294967296:=by omega
  refine⟨(Oz hl2).2 ⟨q1,by omega,by omega,fun x hx=>?_,List.Pairwise.filter _ ?_⟩,?_⟩
  ·obtain⟨y,hy,rfl⟩:=List.mem_map.1 (List.mem_filter.1 hx).1
   exact(Qg (n:=n) (x:=y) (by have:=R4 hy;omega)).2.2.1 (q4 y hy)
  ·rw[List.pairwise_map]
   refine q5.imp_of_mem fun {a b} ha hb hab=>?_
   have e1:=(Qg (n:=n) (x:=a) (by have:=R4 ha;omega)).2.2.2.1
   have e2:=(Qg (n:=n) (x:=b) (by have:=R4 hb;omega)).2.2.2.1
   unfold Atf
   rw[e1,e2];exact hab
  ·rw[Jl _ hl2,Jl _ hl]
   simp only
   omega
theorem Acz (t:A7) (h:A3 t≤4294967296):Gv t t=some (true,()):=by
 obtain⟨c,l,⟨⟩⟩:=t
 simp only[A3]at h
 have hs:=Co (B:=F8) l.length (fun i=>((i:Int),c,l,c,l,())) (.inr ())
  (fun i hi=>by
   have hx:=List.getElem?_eq_getElem hi
   have hnx:=Ia (f:=Az) hx
   unfold F8
   simp only[Ah,Ai,Ab,Am,Db hi,A9,B7 hx,Ak]
   rw[Amu l[i] zq0,Ak,w64 zq0]
   rfl)
  (by unfold F8;simp only[Ah,Ab,Dc,A1])
 unfold Gv Ux
 simp only[Ah,Ai,Ab,Ej,bne_self_eq_false,A1]
 rw[show As F8 ((0:Int),c,l,c,l,())=_ from hs]
 rfl
end
end Go.Proofs.YtfljmgnghlpapaaGreat

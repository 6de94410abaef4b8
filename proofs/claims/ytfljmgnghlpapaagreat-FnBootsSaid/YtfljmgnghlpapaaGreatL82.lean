/-
  That the program and the reference answer alike, in plain terms, and that the laws answer true.
-/
import Derived.Test.YtfljmgnghlpapaaGreatL81
namespace Go.Proofs.YtfljmgnghlpapaaGreat
open Go.RowKit
set_option linter.unusedVariables false
set_option linter.unusedSimpArgs false
set_option maxRecDepth 100000
set_option maxHeartbeats 4000000
noncomputable section
theorem A87 {a b:List YB} (h:Ds a b=true):Ds b a=true:=by
 unfold Ds at h ⊢
 simp only[decide_eq_true_eq]at h ⊢
 exact h.symm
theorem A5x {l:List Ad} {s:List YB} (h:0≤Es l s): ∃x∈l,Ds x.2.2.1 s=true:=by
 unfold Es L9 at h
 cases hf:G6 (fun _ (y:Ad)=>Ds y.2.2.1 s) l 0 with
 |none=>rw[hf]at h;simp at h
 |some k=>
  obtain⟨j,y,_,h2,h3,_⟩:=Tv hf
  exact⟨y,List.mem_of_getElem? h2,h3⟩
def tkL (l:List Ad) (n:YI):List Ad:=(l.map (C7 n)).filter (Eo n.1)
theorem Bd1 {l:List Ad} {n:YI} (h:Co Aw l≤8388608) (hp:l.Pairwise Adi):(tkL l n).Pairwise Adi:=by
 refine List.Pairwise.filter _ ?_
 rw[List.pairwise_map]
 refine hp.imp_of_mem fun {a b} ha hb hab=>?_
 have e1:=(Kv (n:=n) (x:=a) (by have:=J7 ha;omega)).2.2.2.1
 have e2:=(Kv (n:=n) (x:=b) (by have:=J7 hb;omega)).2.2.2.1
 unfold Adi
 rw[e1,e2];exact hab
theorem Bfq {l:List Ad} {n:YI} (h:Co Aw l≤8388608) (hp:l.Pairwise Adi) {i:Nat} {x:Ad} (hx:l[i]? =some x):
  (Eo n.1 (C7 n x)=true→ ∃j:Nat,Es (tkL l n) x.2.2.1=(j:Int)∧(tkL l n)[j]? =some (C7 n x))∧(Eo n.1 (C7 n x)=false→Es (tkL l n) x.2.2.1<0):=by
 have hxm:=List.mem_of_getElem? hx
 have hsn: ∀y∈l,(C7 n y).2.2.1=y.2.2.1:=fun y hy=>(Kv (n:=n) (x:=y) (by have:=J7 hy;omega)).2.2.2.1
 refine⟨fun hk=>?_,fun hk=>?_⟩
 ·have hm:C7 n x∈tkL l n:=List.mem_filter.2 ⟨List.mem_map.2 ⟨x,hxm,rfl⟩,hk⟩
  obtain⟨j,hj⟩:=List.getElem?_of_mem hm
  have:=A8z (Bd1 h hp) hj
  rw[hsn x hxm]at this
  exact⟨j,this,hj⟩
 ·rcases Int.lt_or_le (Es (tkL l n) x.2.2.1) 0 with q|q
  ·exact q
  ·exfalso
   obtain⟨z,hz,hzs⟩:=A5x q
   obtain⟨hz1,hz2⟩:=List.mem_filter.1 hz
   obtain⟨y,hy,rfl⟩:=List.mem_map.1 hz1
   rw[hsn y hy]at hzs
   obtain⟨j,hj⟩:=List.getElem?_of_mem hy
   rw[List.pairwise_iff_getElem]at hp
   obtain⟨k1,k2⟩:=List.getElem?_eq_some_iff.1 hj
   obtain⟨k3,k4⟩:=List.getElem?_eq_some_iff.1 hx
   rcases Nat.lt_trichotomy i j with g|g|g
   ·have:=hp i j k3 k1 g
    rw[k2,k4]at this
    unfold Adi at this
    rw[A87 hzs]at this;cases this
   ·subst g
    rw[hj]at hx;cases hx
    rw[hz2]at hk;cases hk
   ·have:=hp j i k1 k3 g
    rw[k2,k4]at this
    unfold Adi at this
    rw[hzs]at this;cases this
def dyN (n:YI) (x:Ad):Bool:= !Bo x && Bo (C7 n x)
def A88 (x:Ad):A6:=((11:Int),x.1,(1:Int),([]:List YB),x.2.2.1,(0:Int),(0:Int),([]:List YB),([]:List YB),(0:Int),(0:Int),(0:Int),())
def An2 (s:Az):Bp:=(s.2.2.2.2.1,s.2.2.2.2.2.1,())
def Zb (s:Az) (n:YI):Az:=(s.1,s.2.1,s.2.2.1,s.2.2.2.1,s.2.2.2.2.1,tkL s.2.2.2.2.2.1 n,s.2.2.2.2.2.2.1,())
def Md (l:List Ad) (n:YI):List A6:=(l.filter (dyN n)).map A88
theorem Bbq {l:List Ad} {n:YI} {i:Nat} {x:Ad} (hx:l[i]? =some x):Md (l.take (i+1)) n=Md (l.take i) n++(bif dyN n x then [A88 x]else []):=by
 unfold Md
 rw[Adf hx,List.map_append]
 cases dyN n x<;>rfl
theorem Bfr {l:List Ad} {n:YI} {i:Nat}:(Md (l.take i) n).length≤i:=by
 unfold Md
 rw[List.length_map];exact Amx
theorem Bd2 (s:Az) (n:YI) (h:A3 s≤8388608) (ho:Ck s=true) (hn:inR n.1 0 1000000=true):Hp s n=some (Zb s n,(Md s.2.2.2.2.2.1 n,())):=by
 have ht:=Ah9 ho
 obtain⟨ps,jar,sd,dn,cap,l,cr,⟨⟩⟩:=s
 dsimp only at ht
 have h':=h
 simp only[A3]at h'
 obtain⟨_,t2,_,t4,t5⟩:=(Pb zq0).1 ht
 have hm:(tkL l n).length≤l.length:=by
  have:=List.length_filter_le (Eo n.1) (l.map (C7 n))
  rw[List.length_map]at this
  exact this
 have htk:Qv (cap,l,()) n=(cap,tkL l n,()):=by unfold Qv;rw[ht,hn];rfl
 unfold Hp Mw
 simp only[Ac,Ae,Ab]
 rw[Hy _ zq0,E4 _ zq0,Bw,ho,hn]
 simp only[Ai,Bool.not_true,Au]
 rw[Bbn (cap,l,()) n zq6,htk]
 simp only[Ai]
 have hs:=B8 (B:=F3) l.length (fun i=>(Md (l.take i) n,l,(l.length:Int),(i:Int),([]:List YBs),([]:List YB),([]:List YB),(0:Int),(0:Int),([]:List Ad),([]:List Ak),ps,jar,sd,dn,cap,tkL l n,cr,())) (Md l n,([]:List YBs),([]:List YB),([]:List YB),(0:Int),(0:Int),([]:List Ad),([]:List Ak),ps,jar,sd,dn,cap,tkL l n,cr,())
  (fun i hi=>by
   have hx:=List.getElem?_eq_getElem hi
   have hnx:=Fb (f:=Aw) hx
   have hsl:l[i].2.2.1.length≤Aw l[i]:=by simp only[Aw];omega
   obtain⟨f1,f2⟩:=Bfq (n:=n) zq0 t5 hx
   have hle:=Bfr (l:=l) (n:=n) (i:=i)
   unfold F3
   simp only[Ac,Ae,Ab,Al,By hi,A4,Bk hx,Ai]
   rw[Ah0 (cap,tkL l n,()) _ zq2,A6q _ _ _ zq0]
   simp only[Ai]
   rw[w64 zq0,An (p:=_≤4294967296) A73,Bbq hx]
   simp only[A8]
   unfold dyN
   have hdd:l[i].2.2.2.2.2.2.2.2.2.2.2.2.2.2.2.2.2.2.2.2.2.2.2.1=Bo l[i]:=rfl
   rw[hdd]
   cases hd:Bo l[i]with
   |true=>simp only[Bool.not_true,Au,Bool.false_and,cond_false,List.append_nil];rfl
   |false=>
    simp only[Bool.not_false,A4,Bool.true_and]
    cases hk:Eo n.1 (C7 n l[i])with
    |false=>
     rw[An (f2 hk),A4,A22 hk]
     rfl
    |true=>
     obtain⟨j,j1,j2⟩:=f1 hk
     rw[j1,Bj zq0,Au,Bk j2]
     simp only[Ai]
     have hdt:(C7 n l[i]).2.2.2.2.2.2.2.2.2.2.2.2.2.2.2.2.2.2.2.2.2.2.2.1=Bo (C7 n l[i]):=rfl
     rw[hdt]
     cases Bo (C7 n l[i])with
     |true=>simp only[A4,cond_true];rfl
     |false=>simp only[Au,cond_false,List.append_nil];rfl)
  (by unfold F3;simp only[Ac,Ab,Bz,Au,List.take_length])
 rw[show As F3 (([]:List A6),l,(l.length:Int),(0:Int),([]:List YBs),([]:List YB),([]:List YB),(0:Int),(0:Int),([]:List Ad),([]:List Ak),ps,jar,sd,dn,cap,tkL l n,cr,())=_ from hs]
 rfl
theorem Bbr (s:Az) (n:YI) (h:A3 s≤8388608) (ho:Ck s=false∨inR n.1 0 1000000=false):Hp s n=some (s,(([]:List A6),())):=by
 unfold Hp Mw
 simp only[Ac,Ae,Ab]
 rw[Hy _ zq0,E4 _ zq0,Bw]
 simp only[Ai]
 cases e:Ck s with
 |false=>rfl
 |true=>
  rcases ho with ho|ho
  ·rw[e]at ho;cases ho
  ·rw[ho];rfl
theorem Bbs {s:Ad} (h:Cs s=true):(1≤s.1∧s.1≤9)∧s.2.2.1.length=12:=by
 unfold Cs at h
 simp only[Bool.and_eq_true,Cu,beq_iff_eq]at h
 obtain⟨h1,h2,h3,_⟩:=h
 exact⟨h1,by omega⟩
theorem Bfs {s:Ad} (h:Cs s=true):Aek (A88 s)=true:=by
 obtain⟨h1,h2⟩:=Bbs h
 unfold A88
 rw[A8q]
 simp only[List.length_nil]
 exact⟨by omega,by omega,by omega,by omega,by omega,by omega,.inl trivial,.inr h2,by omega,.inl trivial,Bhu⟩
theorem A25 {n:YI}: ∀ {l:List Ad},(∀x∈l,TkS x (C7 n x))→Ct l=(Md l n).length+l.countP (fun x=> !Bo (C7 n x))
 |[],_=>rfl
 |a::r,h=>by
  have ih:=A25 (l:=r) (fun x hx=>h x (by simp[hx]))
  obtain⟨_,_,_,q,_⟩:=h a zq3
  have e1:(Md (a::r) n).length=(Md r n).length+(if dyN n a=true then 1 else 0):=by
   unfold Md
   rw[List.length_map,List.length_map,List.filter_cons]
   split<;>simp
  have e2:Ct (a::r)=Ct r+(if Bo a=true then 0 else 1):=by
   unfold Ct
   rw[List.countP_cons]
   cases Bo a<;>rfl
  have e3:(a::r).countP (fun x=> !Bo (C7 n x))=r.countP (fun x=> !Bo (C7 n x))+(if Bo (C7 n a)=true then 0 else 1):=by
   rw[List.countP_cons]
   cases Bo (C7 n a)<;>rfl
  have e4:dyN n a=(!Bo a && Bo (C7 n a)):=rfl
  rw[e1,e2,e3,ih,e4]
  rcases q with q|q
  ·rw[q]
   cases Bo a<;>simp<;>omega
  ·rw[q]
   cases Bo a<;>simp<;>omega
theorem M8 {s:Az}:Ck s=true↔inR (s.1.length:Int) 1 9=true∧((s.2.1.length:Int)==32)=true∧Hx (s.2.2.1,s.2.2.2.1,())=true∧Ev (s.2.2.2.2.1,s.2.2.2.2.2.1,())=true∧Iv s.2.2.2.2.2.2.1=true∧C6 (fun _ x=> !Qt x) s.1=true∧ ∀x∈s.2.2.2.2.2.1,x.1≤(s.1.length:Int):=by
 have key:C6 (fun _ (x:Ad)=>decide (x.1>(s.1.length:Int))) s.2.2.2.2.2.1=true↔ ∀x∈s.2.2.2.2.2.1,x.1≤(s.1.length:Int):=by
  rw[Hq]
  constructor
  ·intro h x hx
   obtain⟨j,hj⟩:=List.getElem?_of_mem hx
   have:=h j x hj
   simp only[decide_eq_false_iff_not]at this
   omega
  ·intro h j x hj
   have:=h x (List.mem_of_getElem? hj)
   simp only[decide_eq_false_iff_not]
   omega
 unfold Ck
 simp only[Bool.and_eq_true,key]
theorem Bft {s:Az} {n:YI} (h:A3 s≤8388608) (ho:Ck s=true) (hn:inR n.1 0 1000000=true):Ck (Zb s n)=true∧A6p (Md s.2.2.2.2.2.1 n)∧((Md s.2.2.2.2.2.1 n).length:Int)=Ga (An2 s)-Ga (An2 (Zb s n))∧A3 (Zb s n)≤A3 s:=by
 have h':=h
 simp only[A3]at h'
 have hl:s.2.2.2.2.2.1.length≤4294967296:=by omega
 obtain⟨a1,a2,a3,a4,a5,a6,a7⟩:=M8.1 ho
 have hta:Bg (s.2.2.2.2.1,s.2.2.2.2.2.1,())≤8388608:=by simp only[Bg];omega
 have htk:Qv (s.2.2.2.2.1,s.2.2.2.2.2.1,()) n=(s.2.2.2.2.1,tkL s.2.2.2.2.2.1 n,()):=by unfold Qv;rw[a4,hn];rfl
 obtain⟨b1,b2⟩:=Bd0 (n:=n) hta a4
 have b3:=A80 (s.2.2.2.2.1,s.2.2.2.2.2.1,()) n hta
 rw[htk]at b1 b2 b3
 obtain⟨_,_,_,t4,_⟩:=(Pb zq0).1 a4
 have hall: ∀x∈s.2.2.2.2.2.1,TkS x (C7 n x):=fun x hx=>(Kv (n:=n) (x:=x) (by have:=J7 hx;omega)).2
 have hlk:(tkL s.2.2.2.2.2.1 n).length≤s.2.2.2.2.2.1.length:=by
  have:=List.length_filter_le (Eo n.1) (s.2.2.2.2.2.1.map (C7 n))
  rw[List.length_map]at this
  exact this
 refine⟨M8.2 ⟨a1,a2,a3,b1,a5,a6,fun x hx=>?_⟩,fun f hf=>?_,?_,?_⟩
 ·obtain⟨y,hy,rfl⟩:=List.mem_map.1 (List.mem_filter.1 hx).1
  have:=(hall y hy).2.2.2.2
  have h2:=a7 y hy
  show(C7 n y).1≤(s.1.length:Int)
  omega
 ·obtain⟨y,hy,rfl⟩:=List.mem_map.1 hf
  exact Bfs (t4 y (List.mem_filter.1 hy).1)
 ·have e1:=G7 (An2 s) hl
  have e2:=G7 (An2 (Zb s n)) (by show(tkL s.2.2.2.2.2.1 n).length≤4294967296;omega)
  have e3:=A25 (l:=s.2.2.2.2.2.1) hall
  have e4:Ct (tkL s.2.2.2.2.2.1 n)=s.2.2.2.2.2.1.countP (fun x=> !Bo (C7 n x)):=by
   unfold tkL
   rw[Am3]
   unfold Ct
   rw[List.countP_map];rfl
  have e1':Ga (An2 s)=(Ct s.2.2.2.2.2.1:Nat):=e1
  have e2':Ga (An2 (Zb s n))=(Ct (tkL s.2.2.2.2.2.1 n):Nat):=e2
  rw[e1',e2',e4];omega
 ·simp only[Bg]at b3
  simp only[A3,Zb];omega
end
end Go.Proofs.YtfljmgnghlpapaaGreat

/-
  That the program and the reference answer alike, in plain terms, and that the laws answer true.
-/
import Derived.Test.YtfljmgnghlpapaaGreatL82
namespace Go.Proofs.YtfljmgnghlpapaaGreat
open Go.RowKit
set_option linter.unusedVariables false
set_option linter.unusedSimpArgs false
set_option maxRecDepth 100000
set_option maxHeartbeats 4000000
noncomputable section
theorem Arj (l:List Ak) (h:l.length≤4294967296):Qm (l,()) (l,())=some (true,()):=by
 have hs:=B8 (B:=Fq) l.length (fun i=>(l,l,(i:Int),())) (.inr ())
  (fun i hi=>by
   have hx:=List.getElem?_eq_getElem hi
   unfold Fq
   simp only[Ac,Ae,Ab,Al,By hi,A4,Bk hx,Ai,beq_self_eq_true,Bool.and_self,Bool.not_true,Au]
   rw[w64 zq0]
   rfl)
  (by unfold Fq;simp only[Ac,Ab,Bz,Au])
 unfold Qm P5
 simp only[Ac,Ae,Ab,Dn,bne_self_eq_false,Au]
 rw[show As Fq (l,l,(0:Int),())=_ from hs]
 rfl
theorem K6 (s:Az) (h:A3 s≤4294967296):Fa s s=some (true,()):=by
 obtain⟨ps,jar,sd,n,cap,ss,cr,⟨⟩⟩:=s
 simp only[A3]at h
 have hs:=B8 (B:=F2) ps.length (fun i=>((i:Int),ps,jar,sd,n,cap,ss,cr,ps,jar,sd,n,cap,ss,cr,())) (.inr ())
  (fun i hi=>by
   have hx:=List.getElem?_eq_getElem hi
   unfold F2
   simp only[Ac,Ae,Ab,Al,By hi,A4,Bk hx,Ai]
   rw[Jw ps[i],Ai,w64 zq0]
   rfl)
  (by unfold F2;simp only[Ac,Ab,Bz,Au])
 unfold Fa Rn
 simp only[Ac,Ae,Ab,Dn,bne_self_eq_false,Au]
 rw[show Fl (jar,()) (jar,())=_ from Jw (jar,()),Ai,show Fl (sd,()) (sd,())=_ from Jw (sd,()),Ai,A23 (cap,ss,()) zq6,Ai,Arj cr zq0,Ai,
  show As F2 ((0:Int),ps,jar,sd,n,cap,ss,cr,ps,jar,sd,n,cap,ss,cr,())=_ from hs]
 rfl
theorem Aug: ∀ {l:List Ad} {i:Nat} {x y:Ad},l[i]? =some x→Bo x=false→Bo y=true→Ct (l.set i y)+1=Ct l
 |[],i,x,y,h,_,_=>by simp at h
 |a::r,0,x,y,h,h1,h2=>by
  simp at h;subst h
  unfold Ct
  simp[List.countP_cons,h1,h2]
 |a::r,i+1,x,y,h,h1,h2=>by
  have:=Aug (l:=r) (i:=i) (x:=x) (y:=y) (by simpa using h) h1 h2
  unfold Ct at this ⊢
  simp only[List.set_cons_succ,List.countP_cons]at this ⊢
  omega
def Bgy (s:Az) (i:Nat) (y:Ad):Az:=(s.1,s.2.1,s.2.2.1,s.2.2.2.1,s.2.2.2.2.1,s.2.2.2.2.2.1.set i y,s.2.2.2.2.2.2.1,())
theorem Bfu {s:Az} {i:Nat} {x y:Ad} (hl:s.2.2.2.2.2.1.length≤4294967296) (ho:Ck s=true) (hx:s.2.2.2.2.2.1[i]? =some x) (hy:Cs y=true) (hs:y.2.2.1=x.2.2.1) (hd:Bo y=true∨Bo y=Bo x) (h1:y.1=x.1):Ck (Bgy s i y)=true:=by
 obtain⟨a1,a2,a3,a4,a5,a6,a7⟩:=M8.1 ho
 refine M8.2 ⟨a1,a2,a3,Amw (t:=(s.2.2.2.2.1,s.2.2.2.2.2.1,())) hl a4 hx hy hs hd,a5,a6,fun z hz=>?_⟩
 rcases Ari hz with hz|hz
 ·exact a7 z hz
 ·rw[hz,h1];exact a7 x (List.mem_of_getElem? hx)
def Bbt (s:Az) (n:Int) (r:Az) (ns:List A6) (k:Int):Prop:=
 (k≠0→r=s∧ns=[])∧(k=0→ ∃x nt,s.2.2.2.2.2.1[n.toNat]? =some x∧0≤n∧Bo x=false∧Cs x=true∧Ck s=true∧r=Bgy s n.toNat (M7 x)∧ns=[nt]∧Aw x≤A3 s)
theorem Bfv (s:Az) (n:YI) (h:A3 s≤536870912):Tot (fun r=>Bbt s n.1 r.1 r.2.1.1 r.2.2.1) (It s n):=by
 have h':=h
 simp only[A3]at h'
 unfold It K4
 simp only[Ac,Ae,Ab,Al]
 rw[Hy s zq0,Ai,E4 s zq0,Ai]
 have no: ∀c:Int,c≠0→Tot (fun r:Az×((List A6)×Unit)×YI=>Bbt s n.1 r.1 r.2.1.1 r.2.2.1) (some (s,(([]:List A6),()),(c,()))):=fun c hc=>Ah ⟨fun _=>⟨rfl,rfl⟩,fun h=>(hc h).elim⟩
 refine Ar (fun _=>no 1 zq4) fun h1=>Ar (fun _=>no 8 zq4) fun h2=>Ar (fun _=>no 8 zq4) fun h3=>?_
 simp only[Bool.not_eq_false',decide_eq_false_iff_not]at h1 h2 h3
 have hlt:n.1.toNat<s.2.2.2.2.2.1.length:=by omega
 have hx:=List.getElem?_eq_getElem hlt
 have hid:idx s.2.2.2.2.2.1 n.1=some s.2.2.2.2.2.1[n.1.toNat]:=by unfold idx;rw[if_pos zq0];exact hx
 rw[hid]
 simp only[Ai]
 generalize s.2.2.2.2.2.1[n.1.toNat]=x at hx
 have hnx:=Fb (f:=Aw) hx
 have hxn:x.2.2.1.length≤Aw x:=by simp only[Aw];omega
 refine Ar (fun _=>no 8 zq4) fun h4=>?_
 have hd:Bo x=false:=h4
 have ht:=Ah9 h1
 have hsx:=A2s ht hx
 have hset:=Amw (t:=(s.2.2.2.2.1,s.2.2.2.2.2.1,())) zq2 ht hx (Aic hsx) rfl (.inl rfl)
 have hbn:=Aue x
 rw[Ayo x zq0 hsx,Ai,Auc (s.2.2.2.2.1,s.2.2.2.2.2.1,()) n (M7 x) x zq6 ht zq0 hx hset,Ai,A6q _ _ _ zq0,Ai]
 exact Ah ⟨fun h=>(h rfl).elim,fun _=>⟨x,_,hx,by omega,hd,hsx,h1,rfl,rfl,by simp only[A3];omega⟩⟩
theorem A5y (x:Az) (n:YI) {y:Ad} (h:A3 x≤536870912) (ho:Ck x=true) (h0:0≤n.1) (hy:x.2.2.2.2.2.1[n.1.toNat]? =some y) (hs:Cs y=true) (hd:Bo y=true):
  Jk x ((0:Int),()) n ([((1:Int),())],())=some (x,(([]:List Ou),()),(([]:List A6),()),((6:Int),())):=by
 have h':=h
 simp only[A3]at h'
 have hlt:=(List.getElem?_eq_some_iff.1 hy).1
 have hid:idx x.2.2.2.2.2.1 n.1=some y:=by unfold idx;rw[if_pos h0];exact hy
 have hny:=Fb (f:=Aw) hy
 unfold Jk Ro
 simp only[Ac,Ae,Ab,Al]
 rw[Hy x zq0,Ai,E4 x zq0,Ai,ho,Bw,Ai,hid]
 simp only[Bool.not_true,Au]
 rw[Bj zq0,Au,Bj zq0,Au,Ai,Bbk y zq0 hs hd,Ai]
 rfl
theorem A89 (a:YBs):Aml a=some (true,()):=by
 unfold Aml Lv
 simp only[Ae,Ac,Ab]
 rw[show Ant a=some (decide ((a.1.length:Int)>(1048576:Int)),())from rfl,Ai]
 by_cases hb:(a.1.length:Int)>1048576
 ·rw[An hb,A4]
 rw[Bj hb,Au]
 obtain⟨⟨s,n⟩,e1,h1⟩:=Ajz a zq0
 obtain⟨⟨u,m⟩,e2,h2⟩:=Am5 a zq0
 dsimp only at h1 h2
 have n1:=h1.need
 have n2:=h2.need
 rw[e1,Ai]
 dsimp only
 obtain⟨r,ns,k,c1,c2,c3,c4⟩:=Awa s n zq0
 obtain⟨q1,d1,d2⟩:=Bfv s n zq0
 rw[c1]at d1
 cases d1
 dsimp only at d2
 rw[c1,c2,e2]
 simp only[Ai]
 have hnl:ns.length≤4294967296:=by omega
 have hsl:s.2.2.2.2.2.1.length≤40:=h1.2.2.2.1.1
 have last:br (k != (0:Int)) (ob (Fa r s) fun r14=>br r14.1 (some (((ns.length:Int)==(0:Int)),())) (some (false,())))
   (ob (Jk r ((0:Int),()) n ([((1:Int),())],())) fun r15=>ob (idx r.2.2.2.2.2.1 n.1) fun e16=>br e16.2.2.2.2.2.2.2.2.2.2.2.2.2.2.2.2.2.2.2.2.2.2.2.1 (
    ob (Ea (r.2.2.2.2.1,r.2.2.2.2.2.1,())) fun r17=>ob (Ea (s.2.2.2.2.1,s.2.2.2.2.2.1,())) fun r18=>br (r17.1==(IntKind.i64.wrap (r18.1-(1:Int)))) (br (r15.2.2.2.1==(6:Int)) (some (((ns.length:Int)==(1:Int)),())) (some (false,()))) (some (false,()))) (some (false,())))=some (true,()):=by
  by_cases hk:k=0
  ·obtain⟨x,nt,g1,g2,g3,g4,g5,g6,g7,g8⟩:=d2.2 hk
   have hnk:(k != (0:Int))=false:=by rw[hk];rfl
   have hro:Ck r=true:=by
    rw[g6];exact Bfu zq0 g5 g1 (Aic g4) rfl (.inl rfl) rfl
   have hrl:r.2.2.2.2.2.1=s.2.2.2.2.2.1.set n.1.toNat (M7 x):=by rw[g6];rfl
   have hrc:r.2.2.2.2.1=s.2.2.2.2.1:=by rw[g6];rfl
   have hlt:=(List.getElem?_eq_some_iff.1 g1).1
   have hry:r.2.2.2.2.2.1[n.1.toNat]? =some (M7 x):=by rw[hrl,List.getElem?_set_self hlt]
   have hri:idx r.2.2.2.2.2.1 n.1=some (M7 x):=by unfold idx;rw[if_pos g2];exact hry
   have l1:=Aug (y:=M7 x) g1 g3 rfl
   have l2:Ea (s.2.2.2.2.1,s.2.2.2.2.2.1,())=some (((Ct s.2.2.2.2.2.1:Nat):Int),()):=by
    rw[Tw _ zq2,G7 _ zq2]
   have l3:Ea (r.2.2.2.2.1,r.2.2.2.2.2.1,())=some (((Ct (s.2.2.2.2.2.1.set n.1.toNat (M7 x)):Nat):Int),()):=by
    rw[hrl,Tw _ (by dsimp only;simp;omega),G7 _ (by dsimp only;simp;omega)]
   have l4:=Bdy (l:=s.2.2.2.2.2.1)
   rw[hnk,Au,A5y r n zq0 hro g2 hry (Aic g4) rfl,Ai,hri,Ai]
   rw[show(M7 x).2.2.2.2.2.2.2.2.2.2.2.2.2.2.2.2.2.2.2.2.2.2.2.1=true from rfl,A4,l3,l2]
   simp only[Ai]
   rw[w64 zq0,show(((Ct (s.2.2.2.2.2.1.set n.1.toNat (M7 x)):Nat):Int)==((Ct s.2.2.2.2.2.1:Nat):Int)-1)=true by simp;omega,A4,g7]
   rfl
  ·obtain⟨g1,g2⟩:=d2.1 hk
   have hnk:(k != (0:Int))=true:=by simpa using hk
   subst g1 g2
   rw[hnk,A4,K6 r zq0,Ai]
   rfl
 have tick: ∃v ks,Hp u m=some (v,(ks,()))∧ ∀y:Option (Bool×Unit),y=some (true,())→ob (Eb u) (fun r9=>br r9.1 (ob (Eb v) fun r10=>br (!r10.1) (some (false,())) (ob (S6 (ks,())) fun r11=>br (!r11.1) (some (false,())) (ob (Ea (u.2.2.2.2.1,u.2.2.2.2.2.1,())) fun r12=>ob (Ea (v.2.2.2.2.1,v.2.2.2.2.2.1,())) fun r13=>br ((ks.length:Int) != (IntKind.i64.wrap (r12.1-r13.1))) (some (false,())) y))) y)=some (true,()):=by
  have hul:u.2.2.2.2.2.1.length≤40:=h2.2.2.2.1.1
  by_cases ho:Ck u=true∧inR m.1 0 1000000=true
  ·obtain⟨k1,k2,k3,k4⟩:=Bft zq0 ho.1 ho.2
   refine⟨_,_,Bd2 u m zq0 ho.1 ho.2,fun y hy=>?_⟩
   have hkl:(Md u.2.2.2.2.2.1 m).length≤40:=by
    unfold Md
    rw[List.length_map]
    exact Nat.le_trans (List.length_filter_le _ _) hul
   have hvl:(Zb u m).2.2.2.2.2.1.length≤A3 (Zb u m):=by simp only[A3];omega
   rw[E4 u zq0,E4 _ zq0,Ayn _ k2 zq0,Tw _ zq2,Tw _ zq2]
   simp only[Ai,ho.1,k1,A4,Bool.not_true,Au]
   have k3':((Md u.2.2.2.2.2.1 m).length:Int)=Ga (u.2.2.2.2.1,u.2.2.2.2.2.1,())-Ga ((Zb u m).2.2.2.2.1,(Zb u m).2.2.2.2.2.1,()):=k3
   rw[w64 zq0,←k3',bne_self_eq_false,Au]
   exact hy
  ·have ho':Ck u=false∨inR m.1 0 1000000=false:=by
    cases e:Ck u with
    |false=>exact .inl rfl
    |true=>right;cases e2:inR m.1 0 1000000 with
     |false=>rfl
     |true=>exact(ho ⟨e,e2⟩).elim
   refine⟨_,_,Bbr u m zq0 ho',fun y hy=>?_⟩
   have hlive:Ga (u.2.2.2.2.1,u.2.2.2.2.2.1,())-Ga (u.2.2.2.2.1,u.2.2.2.2.2.1,())=0:=by omega
   rw[E4 u zq0,Ayn [] (fun f h=>by cases h) zq3,Tw _ zq2]
   simp only[Ai]
   cases Ck u with
   |false=>rw[Au];exact hy
   |true=>
    rw[A4,hlive]
    simp only[Bool.not_true,Au]
    exact hy
 obtain⟨v,ks,t1,t2⟩:=tick
 rw[t1]
 simp only[Ai,bne_self_eq_false,Au]
 rw[K6 r zq0,Ael ns hnl]
 simp only[Ai,Bool.not_true,Au]
 exact t2 _ last
end
end Go.Proofs.YtfljmgnghlpapaaGreat

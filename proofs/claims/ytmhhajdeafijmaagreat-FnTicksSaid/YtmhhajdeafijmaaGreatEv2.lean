/-
  An evaluator of functions by symbols, part 3, and that what it answers is what a call returns; nothing is assumed.
-/
import Derived.Test.YtmhhajdeafijmaaGreatEv1
namespace Go.Proofs.YtmhhajdeafijmaaGreat
open Go.RowKit
set_option linter.unusedVariables false
set_option linter.unusedSectionVars false
set_option linter.unusedSimpArgs false

theorem OVs.sub: ∀ {xs:List Sg} {vs:List Value} {f g:Ac},OVs f xs vs→f.sub g→OVs g xs vs
 |[],[],_,_,_,_=>trivial
 |x::xs,v::vs,_,_,⟨p,q,h1,h2,h3⟩,hs=>⟨p,q,h1.sub hs,h2,h3⟩
 |[],_::_,_,_,h,_=>h.elim
 |_::_,[],_,_,h,_=>h.elim
theorem OVv.sub {r:RV} {v:Value} {f g:Ac} (h:OVv f r v) (hs:f.sub g):OVv g r v:=by
 obtain⟨a,xs⟩:=r
 cases a with
 |true=>obtain⟨vs,e,h⟩:=h;exact⟨vs,e,OVs.sub h hs⟩
 |false=>exact OVs.sub (xs:=xs) (vs:=[v]) h hs
theorem OCs.strip: ∀ {xs:List Cl} {vs:List Value} {f:Ac},OCs f xs vs→OVs f (xs.map fun c=>⟨c.sh,c.val⟩) vs
 |[],[],_,_=>trivial
 |x::xs,v::vs,_,⟨p,q,h1,h2,h3⟩=>⟨p,q,h1,h2,h3.strip⟩
 |[],_::_,_,h=>h.elim
 |_::_,[],_,h=>h.elim
theorem Bf.at: ∀ {cs:List Sh} {h:Ac} {d:dens cs} {c:List Value} {j:Nat} {sg:Sg},Bf h cs d c→Es cs d j=some sg→ ∃u g,c[j]? =some u∧g.sub h∧A4 g sg.sh sg.val u
 |[],h,d,c,j,sg,_,hj=>by simp[Es]at hj
 |s::r,h,d,c,j,sg,ho,hj=>by
  simp only[Bf]at ho
  obtain⟨v,t,g,h',rfl,hp,h1,h2⟩:=ho
  cases j with
  |zero=>simp[Es]at hj;subst hj;exact⟨v,g,rfl,hp.2 g (by simp),h1⟩
  |succ j=>simp only[Es]at hj;obtain⟨u,g',e,q,ho⟩:=Bf.at h2 hj;exact⟨u,g',by simpa using e,Ac.sub_trans q (hp.2 h' (by simp)),ho⟩
theorem Bbc {F:Ac} {e:Nat} {cs:List Sh} {l:List (dens cs)} {v:Value} {i:Nat} {d:dens cs} {j:Nat} {sg:Sg} (h:A4 F (.sl e cs) l v) (hd:l[i]? =some d) (hc:Es cs d j=some sg) {b n cap:Nat} (hv:v= .slice (some ⟨b,0,none⟩) n cap) {u:Value} (hu:F.cell b (i*cs.length+j)=some u):A4 F sg.sh sg.val u:=by
 simp only[A4]at h
 obtain⟨css,rw_,hs,r1,r2,r3⟩:=h
 have hlt:i<l.length:=(List.getElem?_eq_some_iff.1 hd).1
 have hih:i<hs.length:=by rw[r3.2.1];exact hlt
 have hic:i<css.length:=by rw[r3.1];exact hlt
 obtain⟨hlen,hown⟩:=r3.2.2 i _ _ d (List.getElem?_eq_getElem hih) (List.getElem?_eq_getElem hic) hd
 obtain⟨u',g,e1,q1,q2⟩:=Bf.at hown hc
 have hj:j<cs.length:=by have:=(List.getElem?_eq_some_iff.1 e1).1;omega
 obtain⟨hl1,⟨⟨a',hE'⟩,hz'⟩|⟨b',cap',cur,hE',hg',hnc,hcm,hsz,htk'⟩⟩:=r1
 ·rw[hz']at hlt;omega
 ·rw[hv]at hE'
  cases hE'
  have hFr:F b=some (.cells cur e (0,0)):=r2.2 rw_ (by simp) b _ hg'
  have hflat:css.flatten[i*cs.length+j]? =some u':=by
   rw[Fh r3.len (List.getElem?_eq_getElem hic) hj];exact e1
  rw[←htk',List.getElem?_take]at hflat
  split at hflat
  ·unfold Ac.cell at hu
   rw[hFr]at hu
   have h1:cur[i*cs.length+j]? =some u':=by simpa using hflat
   have h2:cur[i*cs.length+j]? =some u:=by simpa using hu
   rw[h1]at h2
   cases h2
   exact A4.sub _ _ _ _ _ q2 (Ac.sub_trans q1 (r2.2 _ (by simp[List.getElem_mem])))
  ·cases hflat
theorem Bbd {cx:Cx} {g:Gh} {st:St} {x:Cl} {v:Value} (h:CR cx g st x v):CR cx g st (A5f x) v:=by
 obtain⟨sh,val,tok⟩:=x
 cases tok with
 |elt t e cs l i d j=>
  obtain⟨h1,h2,h3⟩:=h
  refine⟨h1,h2,fun ht=>?_⟩
  obtain⟨⟨q1,q2,q3,q4⟩,hc,b,n,cap,hv,hu⟩:=h3 ht
  exact Bbc (sg:=⟨sh,val⟩) q1 q4 hc hv hu
 |_=>exact h
theorem Aqv {cx:Cx} {g:Gh} {st:St}: ∀ {xs:List Cl} {vs:List Value},CRs cx g st xs vs→CRs cx g st (xs.map A5f) vs
 |[],[],_=>trivial
 |x::xs,v::vs,h=>⟨Bbd h.1,Aqv h.2⟩
 |[],_::_,h=>h.elim
 |_::_,[],h=>h.elim
theorem Awo (xs:List Cl):((xs.map A5f).map fun c=>(⟨c.sh,c.val⟩:Sg))=xs.map fun c=>⟨c.sh,c.val⟩:=by
 rw[List.map_map]
 apply List.map_congr_left
 rintro⟨sh,val,tok⟩ _
 cases tok<;>rfl
theorem Atf {cx:Cx} {w:World} {gh:Gh} {st:St} (hM:RM cx gh st w): ∀ {rs:List (Bool×List Cl)} {vs:List Value} {live live' e:List Nat},(∀t,t∈live→t∈st.live)→live.Nodup→VRt cx gh st rs vs→Jg rs=some e→eat live e=some live'→
  ∃f,OVt f (rs.map strip) vs∧(∀t,t∈live'→t∈live)∧live'.Nodup∧ ∀b o,f b=some o→ ∃t,t∈live∧t∉live'∧gh.F t b=some o
 |[],[],live,live',e,hsub,hnd,_,h,he=>by
  simp[Jg]at h;subst h
  simp[eat]at he;subst he
  exact⟨Ac.emp,trivial,fun _ h=>h,hnd,fun b o hb=>by cases hb⟩
 |(a,xs)::rs,v::vs,live,live',e,hsub,hnd,hc,h,he=>by
  simp only[Jg]at h
  obtain⟨e1,h1,h⟩:=Ah h
  obtain⟨e2,h2,h⟩:=Ah h
  simp at h;subst h
  obtain⟨l1,he1,he2⟩:=Rn he
  have hgive: ∃f,OVv f (strip (a,xs)) v∧(∀t,t∈l1→t∈live)∧l1.Nodup∧ ∀b o,f b=some o→ ∃t,t∈live∧t∉l1∧gh.F t b=some o:=by
   cases a with
   |true=>
    obtain⟨us,e,hcs⟩:=hc.1
    obtain⟨f,o1,s1,n1,u1⟩:=Ok hM hsub hnd (Aqv hcs) h1 he1
    exact⟨f,⟨us,e,by have:=o1.strip;rw[Awo]at this;exact this⟩,s1,n1,u1⟩
   |false=>
    obtain⟨f,o1,s1,n1,u1⟩:=Ok hM hsub hnd (Aqv (show CRs cx gh st xs [v]from hc.1)) h1 he1
    exact⟨f,by have:=o1.strip;rw[Awo]at this;exact this,s1,n1,u1⟩
  obtain⟨f1,o1,s1,n1,u1⟩:=hgive
  obtain⟨f2,o2,s2,n2,u2⟩:=Atf hM (fun t ht=>hsub t (s1 t ht)) n1 hc.2 h2 he2
  have hap:f1.apart f2:=fun b=>by
   cases e1:f1 b with
   |none=>exact .inl rfl
   |some o=>
    right
    cases e2:f2 b with
    |none=>rfl
    |some o'=>
     obtain⟨t,ht,ht',hF⟩:=u1 b o e1
     obtain⟨t2,hu,hu',hF'⟩:=u2 b o' e2
     have hne:t≠t2:=fun e=>ht' (e▸hu)
     rcases hM.apart t t2 (hsub t ht) (hsub t2 (s1 t2 hu)) hne b with h|h
     ·rw[h]at hF;cases hF
     ·rw[h]at hF';cases hF'
  refine⟨f1.join f2,⟨f1,f2,Db.two hap,o1,o2⟩,fun t ht=>s1 t (s2 t ht),n2,fun b o hb=>?_⟩
  cases e1:f1 b with
  |some o'=>
   simp[Ac.join,e1]at hb;subst hb
   obtain⟨t,ht,ht',hF⟩:=u1 b _ e1
   exact⟨t,ht,fun hm=>ht' (s2 t hm),hF⟩
  |none=>
   simp[Ac.join,e1]at hb
   obtain⟨t,ht,ht',hF⟩:=u2 b _ hb
   exact⟨t,s1 t ht,ht',hF⟩
 |[],_::_,_,_,_,_,_,hc,_,_=>hc.elim
 |_::_,[],_,_,_,_,_,hc,_,_=>hc.elim
def Afu (tmps:Array Value):ResultVar→Sem Value
 | .tmp t=>pure (tmps.getD t undef)
 | .cell a t=>do loadVar t (←asAddr (tmps.getD a undef))
theorem A5s (fn:Func) (tmps:Array Value):results fn tmps=(do
  let vs ←fn.results.mapM (Afu tmps)
  pure (if h:vs.size=1 then vs[0]else .tuple vs)):=rfl
theorem Tl {P:Program} {g:Cfg} (hC:CfgOk P g) {cx:Cx} {w:World} {gh:Gh} {st:St} {a:Act} {nt:Nat} (hM:RM cx gh st w) (hE:Env nt cx gh st a): ∀ {rs:List ResultVar} {l:List (Bool×List Cl)},Ht g st rs=some l→
  ∃vs:List Value,(rs.mapM (Afu a.tmps)).run P w= .ok vs w∧VRt cx gh st l vs
 |[],l,h=>by simp[Ht]at h;subst h;exact⟨[],by simp,trivial⟩
 | .tmp t::rs,l,h=>by
  simp only[Ht]at h
  split at h
  ·rename_i ag xs hg
   obtain⟨l',hl',h⟩:=Ah h
   simp at h;subst h
   obtain⟨vs,h1,h2⟩:=Tl hC hM hE hl'
   have hv:=hE.2.2.1 t
   rw[hg]at hv
   exact⟨a.tmps.getD t undef::vs,by simp[List.mapM_cons,Sem.run_bind,h1,Afu],hv,h2⟩
  ·cases h
 | .cell c t::rs,l,h=>by
  simp only[Ht]at h
  obtain⟨T,hT,h⟩:=Ah h
  split at h
  ·rename_i b off hg
   obtain⟨cs,hcs,h⟩:=Ah h
   obtain⟨hb,h⟩:=A2 h
   obtain⟨l',hl',h⟩:=Ah h
   simp at h;subst h
   have hlen:=Nat.eq_of_beq_eq_true hb
   obtain⟨vs,h1,h2⟩:=Tl hC hM hE hl'
   have hv:=hE.2.2.1 c
   rw[hg]at hv
   obtain⟨us,e,g1,g2,g3⟩:=hM.box b cs hcs
   have hcr:=(g3.drop off).take T.shs.length
   obtain⟨v,k1,k2,k3⟩:=Az5 (hC.ty t T hT) (w:=w) (b:=gh.B b) (o:=off) (Av9 g1) (by rw[←hcr.len];exact hlen)
   refine⟨v::vs,?_,VRv.mk hcr k2 k3,h2⟩
   simp[List.mapM_cons,Sem.run_bind,hv.2,asAddr,k1,h1,Afu]
  ·cases h

theorem A5t {cx:Cx} {g:Gh} {st:St} (hs:cx.G0.sub g.G): ∀ {xs:List Sg} {vs:List Value},RVs cx.G0 xs vs→CRs cx g st (xs.map fun s=>⟨s.sh,s.val,Aqj s.sh⟩) vs
 |[],[],_=>trivial
 |x::xs,v::vs,h=>⟨Ba5 rfl h.1 hs,A5t hs h.2⟩
 |[],_::_,h=>h.elim
 |_::_,[],h=>h.elim
theorem A0n {cx:Cx} {g:Gh} {st:St} (hs:cx.G0.sub g.G) {r:RV} {v:Value} (h:RVv cx.G0 r v):VRv cx g st r.1 (r.2.map fun s=>⟨s.sh,s.val,Aqj s.sh⟩) v:=by
 obtain⟨a,xs⟩:=r
 cases a with
 |true=>obtain⟨vs,e,h⟩:=h;exact⟨vs,e,A5t hs h⟩
 |false=>exact A5t hs (xs:=xs) (vs:=[v]) h
theorem Tm (v:Value) (vs:List Value) (i n:Nat) (h:n+1≤i):(v::vs).getD (i-n) undef=vs.getD (i-(n+1)) undef:=by
 rw[show i-n=(i-(n+1))+1 by omega];simp
def Lw (st:St) (ts:List Nat):St:={st with live:=ts.reverse++st.live,used:=ts.reverse++st.used}
theorem A70 (st:St) (a b:List Nat):Lw (Lw st a) b=Lw st (a++b):=by simp[Lw,List.append_assoc]
theorem Amv {cx:Cx} {w:World}: ∀ {as:List RV} {ms:List Nat} {vals:List Value} {i n:Nat} {fr:Ac} {gh:Gh} {st:St},(ms.all fun m=>Nat.ble m 2)=true→AVa cx.G0 fr ms as vals→RM cx gh st w→Ba fr w→Ee cx gh st fr→(∀t,n≤t→t∉st.used)→
  ∃gh',RM cx gh' (Lw st (B6 i n ms as).2.2) w∧Ext gh st gh' (Lw st (B6 i n ms as).2.2)∧(B6 i n ms as).2.1=[]∧
   ∀(rest:List Value) j,i≤j→VR cx gh' (Lw st (B6 i n ms as).2.2) (look j (B6 i n ms as).1) ((vals++rest).getD (j-i) undef)
 |[],ms,[],i,n,fr,gh,st,_,_,hM,_,_,_=>by
  refine⟨gh,?_,?_,rfl,fun rest j _=>trivial⟩
  ·simpa [B6,Lw] using hM
  ·simpa [B6,Lw] using Ext.refl gh st
 |(a,xs)::as,ms,v::vals,i,n,fr,gh,st,hms,⟨g,h,hp,h1,h2⟩,hM,hl,hf,hu=>by
  have lg:Ba g w:=hl.sub (hp.2 g (by simp))
  have lh:Ba h w:=hl.sub (hp.2 h (by simp))
  have fg:Ee cx gh st g:=fun b o hb=>hf b o (hp.2 g (by simp) b o hb)
  have fh:Ee cx gh st h:=fun b o hb=>hf b o (hp.2 h (by simp) b o hb)
  have hgh:g.apart h:=(List.pairwise_cons.1 hp.1).1 h (by simp)
  have htail:(ms.tail.all fun m=>Nat.ble m 2)=true:=by
   cases ms with
   |nil=>rfl
   |cons m r=>simp only[List.all_cons,Bool.and_eq_true]at hms;exact hms.2
  have hhead:ms.headD 0≤2:=by
   cases ms with
   |nil=>simp
   |cons m r=>simp only[List.all_cons,Bool.and_eq_true]at hms;exact Nat.le_of_ble_eq_true hms.1
  by_cases h0:ms.headD 0=0
  ·have hsp:B6 i n ms ((a,xs)::as)=((i,.v a (xs.map fun s=>⟨s.sh,s.val,Aqj s.sh⟩))::(B6 (i+1) n ms.tail as).1,(B6 (i+1) n ms.tail as).2):=by
    simp only[B6,h0]
   rw[hsp]
   rw[h0]at h1
   obtain⟨g1,M1,E1,B1,L1⟩:=Amv (i:=i+1) (n:=n) htail h2 hM lh fh hu
   refine⟨g1,M1,E1,B1,fun rest j hj=>?_⟩
   rw[E4]
   by_cases hji:j=i
   ·subst hji
    rw[if_pos rfl]
    simp only[Nat.sub_self,List.cons_append,List.getD_cons_zero]
    exact A0n M1.g0 h1
   ·rw[if_neg hji,List.cons_append,Tm _ _ _ _ (by omega)]
    exact L1 rest j (by omega)
  ·have hO:OVv g (a,xs) v:=by
    have:ms.headD 0=1∨ms.headD 0=2:=by omega
    rcases this with e|e<;>rw[e]at h1<;>exact h1
   have hsp:B6 i n ms ((a,xs)::as)=((i,.v a (B9 n xs).1)::(B6 (i+1) (B9 n xs).2 ms.tail as).1,(B6 (i+1) (B9 n xs).2 ms.tail as).2.1,List.range' n ((B9 n xs).2-n)++(B6 (i+1) (B9 n xs).2 ms.tail as).2.2):=by
    have:ms.headD 0=1∨ms.headD 0=2:=by omega
    rcases this with e|e<;>simp only[B6,e]
   rw[hsp]
   have hge:=J2 n xs
   obtain⟨g1,M1,E1,C1,N1⟩:=Amn (n:=n) hM hO lg fg (fun t t1 _=>hu t t1)
   have hmore:more st n ((B9 n xs).2-n)=Lw st (List.range' n ((B9 n xs).2-n)):=rfl
   obtain⟨g2,M2,E2,B2,L2⟩:=Amv (i:=i+1) (n:=(B9 n xs).2) htail h2 M1 lh (N1 h fh (Ac.apart_symm hgh)) (fun t ht hm=>by
    rcases List.mem_append.1 hm with q|q
    ·have:=List.mem_range'_1.1 (List.mem_reverse.1 q);omega
    ·exact hu t (by omega) q)
   rw[hmore,A70]at M2 E2 L2
   refine⟨g2,M2,E1.trans E2,B2,fun rest j hj=>?_⟩
   simp only
   rw[E4]
   by_cases hji:j=i
   ·subst hji
    rw[if_pos rfl]
    simp only[Nat.sub_self,List.cons_append,List.getD_cons_zero]
    exact VRv.ext E2 C1
   ·rw[if_neg hji,List.cons_append,Tm _ _ _ _ (by omega)]
    exact L2 rest j (by omega)
 |[],_,_::_,_,_,_,_,_,_,h,_,_,_,_=>h.elim
 |_::_,_,[],_,_,_,_,_,_,h,_,_,_,_=>h.elim
theorem A0o {G:Az}: ∀ {as:List RV} {ms:List Nat} {vals:List Value} {fr:Ac},AVa G fr ms as vals→as.length=vals.length
 |[],_,[],_,_=>rfl
 |_::_,_,_::_,_,⟨_,_,_,_,h⟩=>by simp[A0o h]
 |[],_,_::_,_,h=>h.elim
 |_::_,_,[],_,h=>h.elim
theorem Anj {G:Az}: ∀ {as:List RV} {vals:List Value},RVa G as vals→AVa G Ac.emp [] as vals
 |[],[],_=>trivial
 |x::xs,v::vs,h=>⟨Ac.emp,Ac.emp,⟨List.pairwise_cons.2 ⟨fun x _=>Ac.emp_apart x,List.pairwise_singleton _ _⟩,fun x hx=>by simp at hx;subst hx;exact Ac.sub_refl _⟩,h.1,Anj h.2⟩
 |[],_::_,h=>h.elim
 |_::_,[],h=>h.elim
theorem A0p {G:Az} {w:World} (h:D8 G w) {b o:Nat} {v:Value} (hv:G b o=some v):b<w.heap.size:=by
 rcases Nat.lt_or_ge b w.heap.size with q|q
 ·exact q
 ·rw[Ol h q o]at hv;cases hv
def gh0 (G:Az) (b:Nat):Gh:=⟨G,fun _=>b,fun _=>Ac.emp,fun _=>undef,fun _=>0⟩
theorem Aqw (vals:List Value) (nt i:Nat):((vals.toArray++Array.replicate (nt-vals.toArray.size) undef).getD i undef)=(vals++List.replicate (nt-vals.length) undef).getD (i-0) undef:=by
 simp[Array.getD_eq_getD_getElem?,List.getD_eq_getElem?_getD,Array.getElem?_append,List.getElem?_append,Array.getElem?_replicate,List.getElem?_replicate]
theorem A0q (vals:List Value) (np nt i:Nat) (v:Value) (h:(vals.take np)[i]? =some v):(vals.toArray++Array.replicate (nt-vals.toArray.size) undef).getD i undef=v:=by
 rw[Aqw]
 rw[List.getElem?_take]at h
 split at h
 ·rw[Nat.sub_zero,List.getD_eq_getElem?_getD,List.getElem?_append_left (List.getElem?_eq_some_iff.1 h).1,h];rfl
 ·cases h
theorem Ace {w:World} {G:Az} {fr:Ac} {ms:List Nat} {as:List RV} {vals:List Value} (np nt:Nat) (hms:(ms.all fun m=>Nat.ble m 2)=true) (hG:D8 G w) (hl:Ba fr w) (hfr: ∀b,(fr b).isSome=true→ ∀o,G b o=none) (hv:AVa G fr ms as vals) (hle:as.length≤nt):
  ∃gh,RM ⟨w,fr,G,fun _=>undef,vals.take np⟩ gh (Er ms as) w∧Env nt ⟨w,fr,G,fun _=>undef,vals.take np⟩ gh (Er ms as) {tmps:=vals.toArray++Array.replicate (nt-vals.toArray.size) undef,defers:=[]}:=by
 have hM:RM ⟨w,fr,G,fun _=>undef,vals.take np⟩ (gh0 G 0) ⟨[],[],[],[]⟩ w:=⟨Moved.refl _ _,hG,fun _ _ _ h=>h,fun b o v hv=>⟨A0p hG hv,by
   cases e:fr b with
   |none=>exact e
   |some x=>have h1:=hfr b (by rw[e];rfl) o;have h2:G b o=some v:=hv;rw[h1]at h2;cases h2⟩,fun k cs hk=>by simp[St.bx,B7]at hk,fun i j hi=>by simp[St.has,St.bx,B7]at hi,fun k o hk=>by simp[St.has,St.bx,B7]at hk,fun t ht=>by simp at ht,fun t u ht=>by simp at ht,fun t k ht=>by simp at ht,List.nodup_nil,fun b o v hv=>.inl hv⟩
 obtain⟨gh,M1,E1,B1,L1⟩:=Amv (i:=0) (n:=Aql) hms hv hM hl (fun b o hb=>⟨.inr (by show(fr b).isSome=true;rw[hb];rfl),fun t ht=>by simp at ht,fun k hk=>by simp[St.has,St.bx,B7]at hk,fun o'=>hfr b (by rw[hb];rfl) o'⟩) (fun t _ ht=>by simp at ht)
 have hst:Er ms as={Lw ⟨[],[],[],[]⟩ (B6 0 Aql ms as).2.2 with env:=(B6 0 Aql ms as).1}:=by
  simp[Er,Lw,B1]
 have hX:Ext gh (Lw ⟨[],[],[],[]⟩ (B6 0 Aql ms as).2.2) gh (Er ms as):=by
  rw[hst]
  exact⟨fun _ _ _ h=>h,fun _ _=>rfl,fun _ h=>h,fun _ h=>h,fun t h _=>⟨h,rfl,rfl,rfl,fun _ _ _=>rfl⟩⟩
 refine⟨gh,?_,by simp;have:=A0o hv;omega,rfl,fun i=>?_,fun i v hi=>A0q _ _ _ _ _ hi⟩
 ·rw[hst]
  exact⟨M1.moved,M1.lies,M1.g0,M1.old,fun k cs hk=>by simp[St.bx,B7,Lw]at hk,fun i j hi=>by simp[St.has,St.bx,B7,Lw]at hi,fun k o hk=>by simp[St.has,St.bx,B7,Lw]at hk,M1.tok,M1.apart,fun t k _ hk=>by simp[St.has,St.bx,B7,Lw]at hk,M1.nodup,M1.new⟩
 ·have:=L1 (List.replicate (nt-vals.length) undef) i (Nat.zero_le _)
  rw[Aqw]
  have h2:=this.ext hX
  have hg:(Er ms as).get i=look i (B6 0 Aql ms as).1:=rfl
  rw[hg];exact h2
theorem A3n: ∀ {a b:List RV} {vs us:List Value} {f:Ac},a.length=vs.length→OVt f (a++b) (vs++us)→ ∃f1 f2,Db f [f1,f2]∧OVt f1 a vs∧OVt f2 b us
 |[],b,[],us,f,_,h=>⟨Ac.emp,f,⟨List.pairwise_cons.2 ⟨fun x _=>Ac.emp_apart x,List.pairwise_singleton _ _⟩,fun x hx=>by
   simp at hx
   rcases hx with rfl|rfl
   ·exact Ac.emp_sub _
   ·exact Ac.sub_refl _⟩,trivial,h⟩
 |x::a,b,v::vs,us,f,hl,⟨p,q,hp,h1,h2⟩=>by
  obtain⟨f1,f2,k1,k2,k3⟩:=A3n (by simpa using hl) h2
  have a1:f1.sub q:=k1.2 f1 (by simp)
  have a2:f2.sub q:=k1.2 f2 (by simp)
  have hpq:p.apart q:=(List.pairwise_cons.1 hp.1).1 q (by simp)
  have h12:f1.apart f2:=(List.pairwise_cons.1 k1.1).1 f2 (by simp)
  have hpf:p.apart f1:=Ac.apart_sub hpq (Ac.sub_refl _) a1
  refine⟨p.join f1,f2,⟨List.pairwise_cons.2 ⟨fun z hz=>?_,List.pairwise_singleton _ _⟩,fun z hz=>?_⟩,⟨p,f1,Db.two hpf,h1,k2⟩,k3⟩
  ·simp at hz;subst hz
   exact Ac.join_apart (Ac.apart_sub hpq (Ac.sub_refl _) a2) h12
  ·simp at hz
   rcases hz with rfl|rfl
   ·exact Ac.join_sub (hp.2 p (by simp)) (Ac.sub_trans a1 (hp.2 q (by simp)))
   ·exact Ac.sub_trans a2 (hp.2 q (by simp))
 |[],_,_::_,_,_,h,_=>by simp at h
 |_::_,_,[],_,_,h,_=>by simp at h
theorem VRt.app {cx:Cx} {g:Gh} {st:St}: ∀ {a b:List (Bool×List Cl)} {vs us:List Value},VRt cx g st a vs→VRt cx g st b us→VRt cx g st (a++b) (vs++us)
 |[],_,[],_,_,h=>h
 |_::_,_,_::_,_,h,h'=>⟨h.1,h.2.app h'⟩
 |[],_,_::_,_,h,_=>h.elim
 |_::_,_,[],_,h,_=>h.elim
theorem VRt.len {cx:Cx} {g:Gh} {st:St}: ∀ {a:List (Bool×List Cl)} {vs:List Value},VRt cx g st a vs→a.length=vs.length
 |[],[],_=>rfl
 |_::_,_::_,h=>by simp[VRt.len h.2]
 |[],_::_,h=>h.elim
 |_::_,[],h=>h.elim
theorem A3o {cx:Cx} {nt:Nat} {g:Gh} {st:St} {a:Act} (hE:Env nt cx g st a): ∀ {ms:List Nat} {vals:List Value} {i:Nat} {m:List (Bool×List Cl)},(∀j v,vals[j]? =some v→j<ms.length→a.tmps.getD (i+j) undef=v)→ms.length≤vals.length→Aur st i ms=some m→
  ∃us,VRt cx g st m us∧ ∀f,OVt f (m.map strip) us→MOa f ms (m.map strip) vals
 |[],vals,i,m,_,_,h=>by
  simp[Aur]at h;subst h
  refine⟨[],trivial,fun f _=>?_⟩
  have key: ∀(vals:List Value) (f:Ac),MOa f [] [] vals:=by
   intro vals
   induction vals with
   |nil=>intro f;rfl
   |cons v vals ih=>intro f;exact ih f
  exact key vals f
 |m0::ms,[],i,m,_,hl,h=>by simp at hl
 |m0::ms,v::vals,i,m,hv,hl,h=>by
  simp only[Aur]at h
  obtain⟨r,hr,h2⟩:=Ah h
  clear h
  have h:cond (Nat.beq m0 1) (match st.get i with| .v a xs=>some ((a,xs)::r)|_=>none) (some r)=some m:=h2
  clear h2
  obtain⟨us,k1,k2⟩:=A3o hE (vals:=vals) (i:=i+1) (fun j u hj hlt=>by have:=hv (j+1) u (by simpa using hj) (by simp;omega);rw[show i+1+j=i+(j+1) by omega];exact this) (by simpa using hl) hr
  cases hb:Nat.beq m0 1 with
  |true=>
   rw[hb]at h
   simp only[cond_true]at h
   have e:=Nat.eq_of_beq_eq_true hb
   subst e
   cases hg:st.get i with
   |v ag xs=>
    rw[hg]at h
    simp at h;subst h
    have h0:=hE.2.2.1 i
    rw[hg]at h0
    have h1:=hv 0 v rfl (by simp)
    rw[Nat.add_zero]at h1
    rw[h1]at h0
    refine⟨v::us,⟨h0,k1⟩,fun f hf=>?_⟩
    obtain⟨p,q,hp,o1,o2⟩:=hf
    exact⟨p,q,hp,o1,k2 q o2⟩
   |any=>rw[hg]at h;cases h
   |box _ _=>rw[hg]at h;cases h
   |el _ _ _=>rw[hg]at h;cases h
   |tup _=>rw[hg]at h;cases h
  |false=>
   rw[hb]at h
   simp at h;subst h
   refine⟨us,k1,fun f hf=>?_⟩
   have hne:m0≠1:=fun e=>by subst e;cases hb
   have hrest:=k2 f hf
   unfold MOa
   simp only[List.headD_cons,List.tail_cons]
   split
   ·exact(hne rfl).elim
   ·exact(hne rfl).elim
   ·exact hrest
end Go.Proofs.YtmhhajdeafijmaaGreat
namespace Go.Proofs.YtmhhajdeafijmaaGreat
open Go.RowKit
set_option linter.unusedVariables false
set_option linter.unusedSectionVars false
set_option linter.unusedSimpArgs false

def Aqx (vs:List Value):Value:=if vs.length=1 then vs.headD undef else .tuple vs.toArray
theorem Ank {P:Program} {fn:Func} {a:Act} {w:World} {vs:List Value} (h1:(fn.results.toList.mapM (Afu a.tmps)).run P w= .ok vs w):(results fn a.tmps).run P w= .ok (Aqx vs) w:=by
 rw[A5s,Sem.run_bind,Array.mapM_eq_mapM_toList]
 simp only[Sem.run_map,h1,Result.andThen_ok,Sem.run_pure]
 congr 1
 unfold Aqx
 by_cases h1':vs.length=1
 ·have h2':vs.toArray.size=1:=by simpa using h1'
  rw[if_pos h1',dif_pos h2']
  match vs,h1' with
  |[v],_=>rfl
 ·have h2': ¬vs.toArray.size=1:=by simpa using h1'
  rw[if_neg h1',dif_neg h2']
theorem CRs.rvs {cx:Cx} {g:Gh} {st:St}: ∀ {xs:List Cl} {vs:List Value},CRs cx g st xs vs→RVs g.G (xs.map fun c=>⟨c.sh,c.val⟩) vs
 |[],[],_=>trivial
 |x::xs,v::vs,h=>⟨h.1.1,CRs.rvs h.2⟩
 |[],_::_,h=>h.elim
 |_::_,[],h=>h.elim
theorem VRv.rvv {cx:Cx} {g:Gh} {st:St} {p:Bool×List Cl} {v:Value} (h:VRv cx g st p.1 p.2 v):RVv g.G (strip p) v:=by
 obtain⟨a,xs⟩:=p
 cases a with
 |true=>obtain⟨vs,e,h⟩:=h;exact⟨vs,e,h.rvs⟩
 |false=>exact CRs.rvs (vs:=[v]) h
theorem VRt.rva {cx:Cx} {g:Gh} {st:St}: ∀ {l:List (Bool×List Cl)} {vs:List Value},VRt cx g st l vs→RVa g.G (l.map strip) vs
 |[],[],_=>trivial
 |x::xs,v::vs,h=>⟨VRv.rvv h.1,VRt.rva h.2⟩
 |[],_::_,h=>h.elim
 |_::_,[],h=>h.elim
theorem A0r {G:Az} {l:List RV} {vs:List Value} (h:RVa G l vs):Qh G l (Aqx vs):=by
 match l,vs,h with
 |[],[],h=>exact⟨[],rfl,trivial⟩
 |[r],[v],h=>exact h.1
 |r::s::t,v::u::vs,h=>exact⟨v::u::vs,rfl,h⟩
 |[],_::_,h=>exact h.elim
 |_::_,[],h=>exact h.elim
 |[_],_::_::_,h=>exact h.2.elim
 |_::_::_,[_],h=>exact h.2.elim
theorem Aqy {l:List RV} {vs:List Value} {F:Ac} (o1:OVt F l vs):Kx l (Aqx vs) F:=by
 unfold Aqx
 cases l with
 |nil=>
  cases vs with
  |nil=>exact⟨[],rfl,o1⟩
  |cons _ _=>exact o1.elim
 |cons x l=>
  cases l with
  |nil=>
   cases vs with
   |nil=>exact o1.elim
   |cons v vs=>
    cases vs with
    |nil=>
     obtain⟨p,q,hp,hO,_⟩:=o1
     have hx:Kx [x] v F:=OVv.sub hO (hp.2 p (by simp))
     simpa using hx
    |cons _ _=>obtain⟨_,_,_,_,h⟩:=o1;exact h.elim
  |cons y l=>
   cases vs with
   |nil=>exact o1.elim
   |cons v vs=>
    cases vs with
    |nil=>obtain⟨_,_,_,_,h⟩:=o1;exact h.elim
    |cons u vs=>exact⟨v::u::vs,by simp,o1⟩
theorem Lx: ∀ {n:Nat} {cs:List Cl},Kd n cs=true→ ∀(j:Nat) (x:Cl),cs[j]? =some x→Ds x.sh=true→x.tok= .pin (n+j)
 |n,[],_,j,x,h,_=>by simp at h
 |n,⟨.sl e cs,d,tk⟩::r,h,j,x,hx,hs=>by
  cases tk with
  |pin q=>
   simp only[Kd,Bool.and_eq_true]at h
   cases j with
   |zero=>simp at hx;subst hx;rw[Nat.add_zero,Nat.eq_of_beq_eq_true h.1]
   |succ j=>simp at hx;have:=Lx h.2 j x hx hs;rw[this];congr 1;omega
  |_=>simp[Kd]at h
 |n,⟨.int k,d,tk⟩::r,h,j,x,hx,hs=>by
  simp only[Kd]at h
  cases j with
  |zero=>simp at hx;subst hx;cases hs
  |succ j=>simp at hx;have:=Lx h j x hx hs;rw[this];congr 1;omega
 |n,⟨.bool,d,tk⟩::r,h,j,x,hx,hs=>by
  simp only[Kd]at h
  cases j with
  |zero=>simp at hx;subst hx;cases hs
  |succ j=>simp at hx;have:=Lx h j x hx hs;rw[this];congr 1;omega
 |n,⟨.str,d,tk⟩::r,h,j,x,hx,hs=>by
  simp only[Kd]at h
  cases j with
  |zero=>simp at hx;subst hx;cases hs
  |succ j=>simp at hx;have:=Lx h j x hx hs;rw[this];congr 1;omega
 |n,⟨.junk,d,tk⟩::r,h,j,x,hx,hs=>by
  simp only[Kd]at h
  cases j with
  |zero=>simp at hx;subst hx;cases hs
  |succ j=>simp at hx;have:=Lx h j x hx hs;rw[this];congr 1;omega
theorem N8: ∀ {cs:List Cl},Mk cs=true→ ∀(j:Nat) (x:Cl),cs[j]? =some x→Ds x.sh=true→Uc x.tok=true
 |[],_,j,x,h,_=>by simp at h
 |⟨.sl e cs,d,tk⟩::r,h,j,x,hx,hs=>by
  simp only[Mk,Bool.and_eq_true]at h
  cases j with
  |zero=>simp at hx;subst hx;exact h.1
  |succ j=>simp at hx;exact N8 h.2 j x hx hs
 |⟨.int k,d,tk⟩::r,h,j,x,hx,hs=>by
  simp only[Mk]at h
  cases j with
  |zero=>simp at hx;subst hx;cases hs
  |succ j=>simp at hx;exact N8 h j x hx hs
 |⟨.bool,d,tk⟩::r,h,j,x,hx,hs=>by
  simp only[Mk]at h
  cases j with
  |zero=>simp at hx;subst hx;cases hs
  |succ j=>simp at hx;exact N8 h j x hx hs
 |⟨.str,d,tk⟩::r,h,j,x,hx,hs=>by
  simp only[Mk]at h
  cases j with
  |zero=>simp at hx;subst hx;cases hs
  |succ j=>simp at hx;exact N8 h j x hx hs
 |⟨.junk,d,tk⟩::r,h,j,x,hx,hs=>by
  simp only[Mk]at h
  cases j with
  |zero=>simp at hx;subst hx;cases hs
  |succ j=>simp at hx;exact N8 h j x hx hs
theorem Bdh {cx:Cx} {g:Gh} {st:St} {x:Cl} {v:Value} (h:CR cx g st x v) (hr:Ds x.sh=true→Uc x.tok=true):RdD cx.G0 x.sh x.val v:=by
 obtain⟨h1,h2⟩:=h
 cases hs:Ds x.sh with
 |false=>exact RdD.scalar hs h1
 |true=>
  have hr:=hr hs
  obtain⟨sh,val,tok⟩:=x
  cases tok with
  |ro=>exact h2
  |pin j=>exact h2.1
  |nil=>
   cases sh with
   |sl e cs=>obtain⟨a,ha⟩:=h2 e cs rfl;exact Aml h1 ha _
   |_=>cases hs
  |_=>cases hr
theorem A0s {cx:Cx} {g:Gh} {st:St}: ∀ {cs:List Cl} {vs:List Value},CRs cx g st cs vs→(∀(j:Nat) (x:Cl),cs[j]? =some x→Ds x.sh=true→Uc x.tok=true)→RVs cx.G0 (cs.map fun c=>⟨c.sh,c.val⟩) vs
 |[],[],_,_=>trivial
 |x::xs,v::vs,h,hr=>⟨Bdh h.1 (hr 0 x rfl),A0s h.2 (fun j y hj=>hr (j+1) y (by simpa using hj))⟩
 |[],_::_,h,_=>h.elim
 |_::_,[],h,_=>h.elim
theorem A0t {cx:Cx} {g:Gh} {st:St} (hs:cx.G0.sub g.G): ∀ {xs:List Sg} {vs:List Value} {n:Nat},RVs cx.G0 xs vs→(∀j v,vs[j]? =some v→cx.P (n+j)=v)→CRs cx g st ((xs.zipIdx n).map fun(s,j)=>⟨s.sh,s.val,Hv s.sh (.pin j)⟩) vs
 |[],[],n,_,_=>trivial
 |x::xs,v::vs,n,h,hP=>by
  simp only[List.zipIdx_cons,List.map_cons]
  refine⟨⟨RdD.sub hs _ _ _ h.1,?_⟩,A0t hs h.2 (fun j u hj=>by have:=hP (j+1) u (by simpa using hj);rw[show n+1+j=n+(j+1) by omega];exact this)⟩
  obtain⟨s,d⟩:=x
  cases s with
  |sl e cs=>exact⟨h.1,(hP 0 v rfl).symm⟩
  |_=>intro _ _ e;cases e
 |[],_::_,_,h,_=>h.elim
 |_::_,[],_,h,_=>h.elim
theorem A3p {cx:Cx} {g:Gh} {st:St} {G:Az} (hG:cx.G0=G) (hs:cx.G0.sub g.G) {b:Nat} {vs0:List Value}: ∀ {as:List RV} {ms:List Nat} {vals:List Value} {i n:Nat},(ms.all fun m=>Nat.beq m 0)=true→BVa G b vs0 ms as vals→
  (B6 i n ms as).2=([],[])∧ ∀(rest:List Value) j,i≤j→VR cx g st (look j (B6 i n ms as).1) ((vals++rest).getD (j-i) undef)
 |[],ms,[],i,n,_,_=>⟨rfl,fun rest j _=>trivial⟩
 |(a,xs)::as,ms,v::vals,i,n,hz,⟨h1,h2⟩=>by
  have h0:ms.headD 0=0:=by
   cases ms with
   |nil=>rfl
   |cons m r=>simp only[List.all_cons,Bool.and_eq_true]at hz;exact Nat.eq_of_beq_eq_true hz.1
  have ht:(ms.tail.all fun m=>Nat.beq m 0)=true:=by
   cases ms with
   |nil=>rfl
   |cons m r=>simp only[List.all_cons,Bool.and_eq_true]at hz;exact hz.2
  have hsp:B6 i n ms ((a,xs)::as)=((i,.v a (xs.map fun s=>⟨s.sh,s.val,Aqj s.sh⟩))::(B6 (i+1) n ms.tail as).1,(B6 (i+1) n ms.tail as).2):=by
   simp only[B6,h0]
  rw[hsp]
  rw[if_neg (by omega)]at h1
  obtain⟨k1,k2⟩:=A3p (i:=i+1) (n:=n) hG hs ht h2
  refine⟨k1,fun rest j hj=>?_⟩
  rw[E4]
  by_cases hji:j=i
  ·subst hji
   rw[if_pos rfl]
   simp only[Nat.sub_self,List.cons_append,List.getD_cons_zero]
   exact A0n hs (by rw[hG];exact h1)
  ·rw[if_neg hji,List.cons_append,Tm _ _ _ _ (by omega)]
   exact k2 rest j (by omega)
 |[],_,_::_,_,_,_,h=>h.elim
 |_::_,_,[],_,_,_,h=>h.elim
theorem A71 {cx:Cx} {g:Gh} {st:St} {G:Az} (hG:cx.G0=G) (hs:cx.G0.sub g.G) {b:Nat} {vs0:List Value} (hgB: ∀k,g.B k=b): ∀ {as:List RV} {ms:List Nat} {vals:List Value} {i n:Nat},Afm ms=true→BVa G b vs0 ms as vals→
  as=[]∨(ms.length≤as.length→ ∃p xs,(B6 i n ms as).2=([(p,(xs.zipIdx.map fun(s,j)=>⟨s.sh,s.val,Hv s.sh (.pin j)⟩))],[])∧RVs G xs vs0∧i≤p∧vals[p-i]? =some (.pointer (some ⟨b,0,none⟩))∧p-i<ms.length∧
   ∀(rest:List Value) j,i≤j→(st.has p=true→VR cx g st (look j (B6 i n ms as).1) ((vals++rest).getD (j-i) undef)))
 |[],ms,[],i,n,_,_=>.inl rfl
 |(a,xs)::as,ms,v::vals,i,n,hz,⟨h1,h2⟩=>by
  right
  intro hlen
  cases ms with
  |nil=>cases hz
  |cons m r=>
  simp only[Afm]at hz
  cases h3:Nat.beq m 3 with
  |true=>
   rw[h3]at hz
   have e:=Nat.eq_of_beq_eq_true h3
   subst e
   rw[if_pos (show(3::r).headD 0=3 from rfl)]at h1
   obtain⟨rfl,hxs⟩:=h1
   obtain⟨k1,k2⟩:=A3p (st:=st) (i:=i+1) (n:=n) hG hs hz h2
   have hsp:B6 i n (3::r) ((a,xs)::as)=((i,.box i 0)::(B6 (i+1) n r as).1,(i,xs.zipIdx.map fun(s,j)=>⟨s.sh,s.val,Hv s.sh (.pin j)⟩)::(B6 (i+1) n r as).2.1,(B6 (i+1) n r as).2.2):=rfl
   rw[hsp]
   have k1:(B6 (i+1) n r as).2=([],[]):=k1
   refine⟨i,xs,by simp only[k1],hxs,Nat.le_refl _,by simp,by simp,fun rest j hj hh=>?_⟩
   rw[E4]
   by_cases hji:j=i
   ·subst hji
    rw[if_pos rfl]
    simp only[Nat.sub_self,List.cons_append,List.getD_cons_zero]
    exact⟨hh,by rw[hgB]⟩
   ·rw[if_neg hji,List.cons_append,Tm _ _ _ _ (by omega)]
    exact k2 rest j (by omega)
  |false=>
   rw[h3]at hz
   simp only[cond_false]at hz
   cases h0:Nat.beq m 0 with
   |false=>rw[h0]at hz;cases hz
   |true=>
    rw[h0]at hz
    have e:=Nat.eq_of_beq_eq_true h0
    subst e
    rw[if_neg (show ¬((0::r).headD 0=3) by simp)]at h1
    have hsp:B6 i n (0::r) ((a,xs)::as)=((i,.v a (xs.map fun s=>⟨s.sh,s.val,Aqj s.sh⟩))::(B6 (i+1) n r as).1,(B6 (i+1) n r as).2):=rfl
    rw[hsp]
    rcases A71 (st:=st) hG hs hgB (i:=i+1) (n:=n) hz h2 with q|q
    ·subst q
     simp only[List.tail_cons]at h2
     cases r with
     |nil=>cases hz
     |cons _ _=>simp at hlen
    ·simp only[List.tail_cons]at q
     obtain⟨p,xs',q1,q2,q3,q4,q5,q6⟩:=q (by simpa using hlen)
     refine⟨p,xs',q1,q2,by omega,?_,by simp;omega,fun rest j hj hh=>?_⟩
     ·rw[show p-i=(p-(i+1))+1 by omega];simpa using q4
     ·rw[E4]
      by_cases hji:j=i
      ·subst hji
       rw[if_pos rfl]
       simp only[Nat.sub_self,List.cons_append,List.getD_cons_zero]
       exact A0n hs (by rw[hG];exact h1)
      ·rw[if_neg hji,List.cons_append,Tm _ _ _ _ (by omega)]
       exact q6 rest j (by omega) hh
 |[],_,_::_,_,_,_,h=>h.elim
 |_::_,_,[],_,_,_,h=>h.elim
theorem A72 {G:Az} {b:Nat} {vs0:List Value}: ∀ {as:List RV} {ms:List Nat} {vals:List Value},BVa G b vs0 ms as vals→as.length=vals.length
 |[],_,[],_=>rfl
 |_::_,_,_::_,h=>by simp[A72 h.2]
 |[],_,_::_,h=>h.elim
 |_::_,_,[],h=>h.elim
theorem A3q {pinned:Bool} {st:St}: ∀ {i:Nat} {ms:List Nat} {o:List RV},Amj pinned st i ms=some o→o=[]∨ ∃j cs,i≤j∧j-i<ms.length∧ms[j-i]? =some 3∧st.get j= .box j 0∧st.bx j=some cs∧cond pinned (Kd 0 cs) (Mk cs)=true∧o=[strip (true,cs)]
 |i,[],o,h=>by simp[Amj]at h;exact .inl h
 |i,m::ms,o,h=>by
  simp only[Amj]at h
  cases h3:Nat.beq m 3 with
  |true=>
   rw[h3]at h
   simp only[cond_true]at h
   right
   have e:=Nat.eq_of_beq_eq_true h3
   cases hg:st.get i with
   |box j off=>
    rw[hg]at h
    cases off with
    |succ off=>cases h
    |zero=>
     obtain⟨hij,h2⟩:=A2 h
     obtain⟨cs,hcs,h4⟩:=Ah h2
     obtain⟨hc,h5⟩:=A2 h4
     simp at h5
     have hij:=Nat.eq_of_beq_eq_true hij
     exact⟨i,cs,Nat.le_refl _,by simp,by simp[e],by rw[hg,hij],hcs,hc,h5.symm⟩
   |any=>rw[hg]at h;cases h
   |v _ _=>rw[hg]at h;cases h
   |el _ _ _=>rw[hg]at h;cases h
   |tup _=>rw[hg]at h;cases h
  |false=>
   rw[h3]at h
   simp only[cond_false]at h
   rcases A3q h with q|⟨j,cs,q1,q2,q3,q4⟩
   ·exact .inl q
   ·right
    refine⟨j,cs,by omega,by simp;omega,?_,q4⟩
    rw[show j-i=(j-(i+1))+1 by omega];simpa using q3
section
variable {P:Program} {g:Cfg} (hC:CfgOk P g) {np:Nat} {Λ:H2} {f:FuncId} {fn:Func} (hf:P.funcs[f]? =some fn) (hL: ∀cx b,cx.pin.length≤np→b∈Bu (fn.body.getD .skip)→Fs P cx fn.ntmps Λ b)
include hC hf hL
theorem A90 {kd:Kind} {F:Av} (hF: ∀as res,(F as).val=some res→Iu g np Λ fn kd as=some res):A5j P f kd F:=by
 have hfin: ∀ {cx:Cx} {gh:Gh} {st':St} {a':Act} {w':World} {l:List (Bool×List Cl)} {m:List (Bool×List Cl)} {us:List Value} {ate live':List Nat},RM cx gh st' w'→Env fn.ntmps cx gh st' a'→Ht g st' fn.results.toList=some l→VRt cx gh st' m us→Jg (l++m)=some ate→eat st'.live ate=some live'→
   ∃vs f1 f2,(results fn a'.tmps).run P w'= .ok (Aqx vs) w'∧Ba f1 w'∧Ba f2 w'∧f1.apart f2∧(∀b o,f1 b=some o∨f2 b=some o→E6 cx b∧ ∀k,st'.has k=true→gh.B k≠b)∧OVt f1 (l.map strip) vs∧OVt f2 (m.map strip) us:=by
  intro cx gh st' a' w' l m us ate live' hm en hl hmm hgv hea
  obtain⟨vs,h1,h2⟩:=Tl hC hm en hl
  obtain⟨F,o1,o2,o3,o4⟩:=Atf hm (fun _ h=>h) hm.nodup (h2.app hmm) hgv hea
  rw[List.map_append]at o1
  obtain⟨f1,f2,k1,k2,k3⟩:=A3n (by simpa using h2.len) o1
  have hlf:Ba F w':=fun b o hb=>by obtain⟨t,t1,_,t3⟩:=o4 b o hb;exact(hm.tok t t1).2.1 b o t3
  have hmine: ∀b o,F b=some o→E6 cx b∧ ∀k,st'.has k=true→gh.B k≠b:=fun b o hb=>by
   obtain⟨t,t1,_,t3⟩:=o4 b o hb
   refine⟨(hm.tok t t1).2.2 b o t3,fun k hk he=>?_⟩
   have:=hm.tokBox t k t1 hk
   rw[he,t3]at this;cases this
  have s1:=k1.2 f1 (by simp)
  have s2:=k1.2 f2 (by simp)
  refine⟨vs,f1,f2,Ank h1,hlf.sub s1,hlf.sub s2,(List.pairwise_cons.1 k1.1).1 f2 (by simp),fun b o hb=>?_,k2,k3⟩
  rcases hb with hb|hb
  ·exact hmine b o (s1 b o hb)
  ·exact hmine b o (s2 b o hb)
 cases kd with
 |plain=>
  intro as res vals w G h hG hvals
  have h:=hF as res h
  simp only[Iu]at h
  obtain⟨hle,h⟩:=A2 h
  have hle:=Nat.le_of_ble_eq_true hle
  obtain⟨c,hc,h⟩:=Ah h
  refine calls_of_wp hf hc ?_
  obtain⟨gh,hM,hE⟩:=Ace np fn.ntmps (ms:=[]) rfl hG (Ba.emp w) (fun b hb=>by cases hb) (Anj hvals) hle
  refine Aa6 hC (by simp;omega) hM hE h (fun b hb=>hL _ b (by simp;omega) (by simp[hc,hb])) (fun e gh' st' a' w' m en hr=>?_)
  have fin: ∀l,Ht g st' fn.results.toList=some l→(ob (Jg l) fun a=>ob (eat st'.live a) fun _=>some (l.map strip,([]:List RV)))=some res→a'.defers=[]∧ ∃v,(results fn a'.tmps).run P w'= .ok v w'∧Qb w (Kx res.1) (.returned v) w':=by
   intro l hl hgv0
   obtain⟨ate,hgv,hgv1⟩:=Ah hgv0
   obtain⟨live',hea,hres⟩:=Ah hgv1
   simp at hres;subst hres
   obtain⟨vs,f1,f2,k1,k2,k3,k4,k5,k6,k7⟩:=hfin (m:=[]) (us:=[]) m en hl trivial (by simpa using hgv) hea
   refine⟨en.2.1,_,k1,Qb.mk f1 (Moved.grew m.moved (Cc.refl w) (Ac.from_emp _)) k2 (fun b o hb=>?_) (Aqy k6)⟩
   rcases(k5 b o (.inl hb)).1 with q|q
   ·exact q
   ·cases q
  cases e with
  |exit i=>simp at hr
  |normal=>obtain⟨l,hl,hr⟩:=Ah hr;exact fin l hl hr
  |ret=>obtain⟨l,hl,hr⟩:=Ah hr;exact fin l hl hr
 |view=>
  intro as res vals w G h hG hvals
  have h:=hF as res h
  simp only[Iu]at h
  obtain⟨hle,h⟩:=A2 h
  have hle:=Nat.le_of_ble_eq_true hle
  obtain⟨c,hc,h⟩:=Ah h
  refine calls_of_wp hf hc ?_
  obtain⟨gh,hM,hE⟩:=Ace np fn.ntmps (ms:=[]) rfl hG (Ba.emp w) (fun b hb=>by cases hb) (Anj hvals) hle
  refine Aa6 hC (by simp;omega) hM hE h (fun b hb=>hL _ b (by simp;omega) (by simp[hc,hb])) (fun e gh' st' a' w' m en hr=>?_)
  have fin: ∀l,Ht g st' fn.results.toList=some l→some (l.map strip,([]:List RV))=some res→a'.defers=[]∧ ∃v,(results fn a'.tmps).run P w'= .ok v w'∧ ∃v' G',(Ending.returned v)= .returned v'∧Cc w w'∧D8 G' w'∧G.sub G'∧(∀b o x,G' b o=some x→G b o=some x∨w.heap.size≤b)∧Qh G' res.1 v':=by
   intro l hl hres
   simp at hres;subst hres
   obtain⟨vs,h1,h2⟩:=Tl hC m en hl
   refine⟨en.2.1,_,Ank h1,_,gh'.G,rfl,Moved.grew m.moved (Cc.refl w) (Ac.from_emp _),m.lies,m.g0,fun b o x hx=>?_,A0r h2.rva⟩
   rcases m.new b o x hx with q|q|q
   ·exact .inl q
   ·exact .inr q
   ·cases q
  cases e with
  |exit i=>simp at hr
  |normal=>obtain⟨l,hl,hr⟩:=Ah hr;exact fin l hl hr
  |ret=>obtain⟨l,hl,hr⟩:=Ah hr;exact fin l hl hr
 |ret=>
  intro as res vals w G h hG hvals
  have h:=hF as res h
  simp only[Iu]at h
  obtain⟨hle,h⟩:=A2 h
  have hle:=Nat.le_of_ble_eq_true hle
  obtain⟨c,hc,h⟩:=Ah h
  refine calls_of_wp hf hc ?_
  obtain⟨gh,hM,hE⟩:=Ace np fn.ntmps (ms:=[]) rfl hG (Ba.emp w) (fun b hb=>by cases hb) (Anj hvals) hle
  refine Aa6 hC (by simp;omega) hM hE h (fun b hb=>hL _ b (by simp;omega) (by simp[hc,hb])) (fun e gh' st' a' w' m en hr=>?_)
  have fin:(match fn.results.toList with
   |[.tmp t]=>match st'.get t with
    | .box b 0=>ob (st'.bx b) fun cs=>chk (Mk cs) (some ([strip (true,cs)],([]:List RV)))
    |_=>none
   |_=>none)=some res→a'.defers=[]∧ ∃v,(results fn a'.tmps).run P w'= .ok v w'∧ ∃b vs ty ag r,(Ending.returned v)= .returned (.pointer (some ⟨b,0,none⟩))∧Cc w w'∧w.heap.size≤b∧w'.heap[b]? =some (.cells (vs:List Value).toArray ty (0,0))∧res.1=[(ag,r)]∧RVs G r vs:=by
   intro hr
   split at hr
   ·rename_i t hrs
    split at hr
    ·rename_i b hg
     obtain⟨cs,hcs,hr⟩:=Ah hr
     obtain⟨hro,hr⟩:=A2 hr
     simp at hr;subst hr
     have hv:=en.2.2.1 t
     rw[hg]at hv
     obtain⟨vs,e,g1,g2,g3⟩:=m.box b cs hcs
     refine⟨en.2.1,Aqx [a'.tmps.getD t undef],Ank (by rw[hrs];simp[List.mapM_cons,Sem.run_bind,Afu]),gh'.B b,vs,e,true,_,?_,Moved.grew m.moved (Cc.refl w) (Ac.from_emp _),?_,g1,rfl,A0s g3 (N8 hro)⟩
     ·rw[hv.2];rfl
     ·rcases g2 with q|q
      ·exact q
      ·cases q
    ·cases hr
   ·cases hr
  cases e with
  |exit i=>simp at hr
  |normal=>exact fin hr
  |ret=>exact fin hr
 |lend ms=>
  intro as res vals w G fr h hG hlfr hfr hava
  have h:=hF as res h
  simp only[Iu]at h
  obtain⟨hle,h⟩:=A2 h
  simp only[Bool.and_eq_true]at hle
  obtain⟨⟨⟨hle1,hle2⟩,hle3⟩,hle4⟩:=hle
  have hle2:=Nat.le_of_ble_eq_true hle2
  have hle3:=Nat.le_of_ble_eq_true hle3
  have hle4:=Nat.le_of_ble_eq_true hle4
  obtain⟨c,hc,h⟩:=Ah h
  refine calls_of_wp hf hc ?_
  have hlen:=A0o hava
  obtain⟨gh,hM,hE⟩:=Ace np fn.ntmps hle1 hG hlfr hfr hava hle2
  refine Aa6 hC (by simp;omega) hM hE h (fun b hb=>hL _ b (by simp;omega) (by simp[hc,hb])) (fun e gh' st' a' w' m en hr=>?_)
  have fin: ∀l,Ht g st' fn.results.toList=some l→(ob (Aur st' 0 ms) fun m=>ob (Jg (l++m)) fun a=>ob (eat st'.live a) fun _=>some (l.map strip,m.map strip))=some res→a'.defers=[]∧ ∃v,(results fn a'.tmps).run P w'= .ok v w'∧ ∃v1 f g,(Ending.returned v)= .returned v1∧Moved fr w w'∧Ba f w'∧Ba g w'∧f.apart g∧f.newOr fr w.heap.size∧g.newOr fr w.heap.size∧Kx res.1 v1 f∧MOa g ms res.2 vals:=by
   intro l hl hgv0
   obtain⟨mm,hmm,hgv0⟩:=Ah hgv0
   obtain⟨ate,hgv,hgv1⟩:=Ah hgv0
   obtain⟨live',hea,hres⟩:=Ah hgv1
   simp at hres;subst hres
   obtain⟨us,o1,o2⟩:=A3o en (vals:=vals) (fun j v hj hlt=>by rw[Nat.zero_add];exact en.2.2.2 j v (by show(vals.take np)[j]? =_;rw[List.getElem?_take,if_pos (by omega)];exact hj)) (by omega) hmm
   obtain⟨vs,f1,f2,k1,k2,k3,k4,k5,k6,k7⟩:=hfin m en hl o1 hgv hea
   have hno: ∀b o,f1 b=some o∨f2 b=some o→fr b≠none∨w.heap.size≤b:=fun b o hb=>by
    rcases(k5 b o hb).1 with q|q
    ·exact .inr q
    ·left;intro e;have q':(fr b).isSome=true:=q;rw[e]at q';cases q'
   exact⟨en.2.1,_,k1,_,f1,f2,rfl,m.moved,k2,k3,k4,fun b o hb=>hno b o (.inl hb),fun b o hb=>hno b o (.inr hb),Aqy k6,o2 f2 k7⟩
  cases e with
  |exit i=>simp at hr
  |normal=>obtain⟨l,hl,hr⟩:=Ah hr;exact fin l hl hr
  |ret=>obtain⟨l,hl,hr⟩:=Ah hr;exact fin l hl hr
 |box ms pinned own=>
  intro as res vals w G b vs0 e0 h hG hGb hblk hbva
  have h:=hF as res h
  simp only[Iu]at h
  obtain⟨hle,h⟩:=A2 h
  simp only[Bool.and_eq_true]at hle
  obtain⟨⟨⟨hle1,hle2⟩,hle3⟩,hle4⟩:=hle
  have hle2:=Nat.le_of_ble_eq_true hle2
  have hle3:=Nat.le_of_ble_eq_true hle3
  have hle4:=Nat.le_of_ble_eq_true hle4
  obtain⟨c,hc,h⟩:=Ah h
  refine calls_of_wp hf hc ?_
  have hlen:=A72 hbva
  let cx:Cx:=⟨w,Ac.one b (.cells vs0.toArray e0 (0,0)),G,fun j=>vs0.getD j undef,vals.take np⟩
  have hb0:b<w.heap.size:=(Array.getElem?_eq_some_iff.1 hblk).1
  rcases A71 (cx:=cx) (g:=gh0 G b) (st:=Er ms as) (G:=G) rfl (fun _ _ _ h=>h) (fun k=>rfl) (i:=0) (n:=Aql) hle1 hbva with q|q
  ·subst q
   cases ms with
   |nil=>cases hle1
   |cons _ _=>simp at hle4
  obtain⟨p,xs,q1,q2,q3,q4,q5,q6⟩:=q hle4
  have hbx:(Er ms as).boxes=[(p,(xs.zipIdx.map fun(s,j)=>⟨s.sh,s.val,Hv s.sh (.pin j)⟩))]:=by simp only[Er,q1]
  have hlv:(Er ms as).live=[]∧(Er ms as).used=[]:=by simp only[Er,q1];exact⟨rfl,rfl⟩
  have hbxk: ∀k cs,(Er ms as).bx k=some cs→k=p∧cs=(xs.zipIdx.map fun(s,j)=>⟨s.sh,s.val,Hv s.sh (.pin j)⟩):=fun k cs hk=>by
   unfold St.bx at hk
   rw[hbx]at hk
   simp only[B7]at hk
   cases hkp:Nat.beq k p with
   |true=>rw[hkp]at hk;simp at hk;exact⟨Nat.eq_of_beq_eq_true hkp,hk.symm⟩
   |false=>rw[hkp]at hk;cases hk
  have hhas:(Er ms as).has p=true:=by unfold St.has St.bx;rw[hbx];simp[B7]
  have hmine:E6 cx b:=.inr (by show(Ac.one b _ b).isSome=true;rw[Lr];rfl)
  have hM:RM cx (gh0 G b) (Er ms as) w:=by
   refine⟨Moved.refl _ _,hG,fun _ _ _ h=>h,fun c o v hv=>⟨A0p hG hv,?_⟩,fun k cs hk=>?_,fun i j hi hj _=>?_,fun k o _=>hGb o,fun t ht=>(by rw[hlv.1]at ht;cases ht),fun t u ht=>(by rw[hlv.1]at ht;cases ht),fun t k ht=>(by rw[hlv.1]at ht;cases ht),(by rw[hlv.1];exact List.nodup_nil),fun b o v hv=>.inl hv⟩
   ·show Ac.one b _ c=none
    simp only[Ac.one]
    rw[if_neg]
    intro e;subst e
    have hv':G c o=some v:=hv
    rw[hGb o]at hv';cases hv'
   ·obtain⟨rfl,rfl⟩:=hbxk k cs hk
    refine⟨vs0,e0,hblk,hmine,A0t (fun _ _ _ h=>h) q2 (fun j v hj=>?_)⟩
    show vs0.getD (0+j) undef=v
    rw[Nat.zero_add,List.getD_eq_getElem?_getD,hj];rfl
   ·obtain⟨cs,hcs⟩:=Fj hi
    obtain⟨cs',hcs'⟩:=Fj hj
    rw[(hbxk i cs hcs).1,(hbxk j cs' hcs').1]
  have hE:Env fn.ntmps cx (gh0 G b) (Er ms as) {tmps:=vals.toArray++Array.replicate (fn.ntmps-vals.toArray.size) undef,defers:=[]}:=by
   refine⟨by simp;omega,rfl,fun i=>?_,fun i v hi=>A0q _ _ _ _ _ hi⟩
   rw[Aqw]
   exact q6 (List.replicate (fn.ntmps-vals.length) undef) i (Nat.zero_le _) hhas
  refine Aa6 hC (by simp[cx];omega) hM hE h (fun b hb=>hL _ b (by simp[cx];omega) (by simp[hc,hb])) (fun e gh' st' a' w' m en hr=>?_)
  have fin: ∀l,Ht g st' fn.results.toList=some l→(ob (cond own (ob (Jg l) fun a=>eat st'.live a) (some [])) fun _=>ob (Amj pinned st' 0 ms) fun o=>some (l.map strip,o))=some res→a'.defers=[]∧ ∃v,(results fn a'.tmps).run P w'= .ok v w'∧
    ∃v1 vs1 e1 ag new,(Ending.returned v)= .returned v1∧Moved (Ac.one b (.cells vs0.toArray e0 (0,0))) w w'∧(own=true→ ∃f,Ba f w'∧f.from_ w.heap.size∧Kx res.1 v1 f)∧(own=false→ ∃G':Az,D8 G' w'∧G.sub G'∧(∀c o x,G' c o=some x→G c o=some x∨w.heap.size≤c)∧Qh G' res.1 v1)∧w'.heap[b]? =some (.cells (vs1:List Value).toArray e1 (0,0))∧
     res.2=[(ag,new)]∧RVs G new vs1∧(pinned=true→ ∀(j:Nat) (s:Sg),(new:List Sg)[j]? =some s→Ds s.sh=true→vs1[j]? =vs0[j]?):=by
   intro l hl hgv0
   obtain⟨live',hgv1,hgv2⟩:=Ah hgv0
   obtain⟨oo,hoo,hres⟩:=Ah hgv2
   simp at hres;subst hres
   have hsome: ∃j cs,j<ms.length∧ms[j]? =some 3∧st'.get j= .box j 0∧st'.bx j=some cs∧cond pinned (Kd 0 cs) (Mk cs)=true∧oo=[strip (true,cs)]:=by
    rcases A3q hoo with z|⟨j,cs,z1,z2,z3,z4⟩
    ·exfalso
     subst z
     have: ∀ {ms:List Nat} {i:Nat},Afm ms=true→Amj pinned st' i ms≠some []:=by
      intro ms
      induction ms with
      |nil=>intro i h;cases h
      |cons m r ih=>
       intro i h hh
       simp only[Afm]at h
       simp only[Amj]at hh
       cases h3:Nat.beq m 3 with
       |true=>
        rw[h3]at hh
        simp only[cond_true]at hh
        split at hh
        ·obtain⟨_,hh⟩:=A2 hh
         obtain⟨cs,_,hh⟩:=Ah hh
         obtain⟨_,hh⟩:=A2 hh
         simp at hh
        ·cases hh
       |false=>
        rw[h3]at h hh
        simp only[cond_false]at h hh
        cases h0:Nat.beq m 0 with
        |true=>rw[h0]at h;exact ih h hh
        |false=>rw[h0]at h;cases h
     exact this hle1 hoo
    ·rw[Nat.sub_zero]at z2 z3
     exact⟨j,cs,z2,z3,z4⟩
   obtain⟨j,cs,z1,z2,z3,z4,z5,rfl⟩:=hsome
   have hvj:=en.2.2.1 j
   rw[z3]at hvj
   have hvalj:vals[j]? =some (.pointer (some ⟨b,0,none⟩)):=by
    have: ∀ {as:List RV} {ms:List Nat} {vals:List Value} {j:Nat},BVa G b vs0 ms as vals→ms[j]? =some 3→j<vals.length→vals[j]? =some (.pointer (some ⟨b,0,none⟩)):=by
     intro as
     induction as with
     |nil=>intro ms vals j h hj hl;cases vals with|nil=>simp at hl|cons _ _=>exact h.elim
     |cons x as ih=>
      intro ms vals j h hj hl
      cases vals with
      |nil=>simp at hl
      |cons v vals=>
       cases ms with
       |nil=>simp at hj
       |cons m r=>
        cases j with
        |zero=>
         simp at hj;subst hj
         obtain⟨h1,_⟩:=h
         simp at h1
         simp[h1.1]
        |succ j=>simp at hj hl;simpa using ih h.2 hj hl
    exact this hbva z2 (by omega)
   have hpj:a'.tmps.getD j undef= .pointer (some ⟨b,0,none⟩):=en.2.2.2 j _ (by show(vals.take np)[j]? =_;rw[List.getElem?_take,if_pos (by omega)];exact hvalj)
   have hBj:gh'.B j=b:=by
    rw[hpj]at hvj
    have:=hvj.2
    simp at this
    exact this.symm
   obtain⟨vs1,e1,g1,g2,g3⟩:=m.box j cs z4
   rw[hBj]at g1
   have hro: ∀(i:Nat) (x:Cl),cs[i]? =some x→Ds x.sh=true→Uc x.tok=true:=fun i x hx hs=>by
    cases pinned with
    |true=>rw[Lx z5 i x hx hs];rfl
    |false=>exact N8 z5 i x hx hs
   have hval: ∃v,(results fn a'.tmps).run P w'= .ok v w'∧(own=true→ ∃f,Ba f w'∧f.from_ w.heap.size∧Kx (l.map strip) v f)∧(own=false→ ∃G':Az,D8 G' w'∧G.sub G'∧(∀c o x,G' c o=some x→G c o=some x∨w.heap.size≤c)∧Qh G' (l.map strip) v):=by
    cases own with
    |true=>
     obtain⟨ate,hgv,hea⟩:=Ah hgv1
     obtain⟨vs,f1,f2,k1,k2,k3,k4,k5,k6,k7⟩:=hfin (m:=[]) (us:=[]) m en hl trivial (by simpa using hgv) hea
     refine⟨_,k1,fun _=>⟨f1,k2,fun c o hc=>?_,Aqy k6⟩,fun h=>by cases h⟩
     rcases(k5 c o (.inl hc)).1 with q|q
     ·exact q
     ·exfalso
      have hq:(Ac.one b (.cells vs0.toArray e0 (0,0)) c).isSome=true:=q
      simp only[Ac.one]at hq
      split at hq
      ·rename_i hcb
       exact(k5 c o (.inl hc)).2 j (Fk z4) (by rw[hBj,hcb])
      ·cases hq
    |false=>
     obtain⟨vs,h1,h2⟩:=Tl hC m en hl
     refine⟨_,Ank h1,fun h=>(by cases h),fun _=>⟨gh'.G,m.lies,m.g0,fun c o x hx=>?_,A0r h2.rva⟩⟩
     rcases m.new c o x hx with q|q|q
     ·exact .inl q
     ·exact .inr q
     ·exfalso
      have hq:(Ac.one b (.cells vs0.toArray e0 (0,0)) c).isSome=true:=q
      simp only[Ac.one]at hq
      split at hq
      ·rename_i hcb
       have:=m.boxG j o (Fk z4)
       rw[hBj,←hcb,hx]at this;cases this
      ·cases hq
   obtain⟨v,hv1,hv2,hv3⟩:=hval
   refine⟨en.2.1,v,hv1,v,vs1,e1,true,_,rfl,m.moved,hv2,hv3,g1,rfl,A0s (cx:=cx) g3 hro,fun hp i s hs hsl=>?_⟩
   ·subst hp
    rw[List.getElem?_map]at hs
    cases hx:cs[i]? with
    |none=>rw[hx]at hs;cases hs
    |some x=>
     rw[hx]at hs
     simp at hs;subst hs
     have ht:=Lx z5 i x hx hsl
     rw[Nat.zero_add]at ht
     obtain⟨v,hv,hcr⟩:=g3.get hx
     rw[hv]
     obtain⟨_,hcr⟩:=hcr
     rw[ht]at hcr
     obtain⟨r1,r2⟩:=hcr
     have r2':v=vs0.getD i undef:=r2
     cases h0:vs0[i]? with
     |some u=>rw[r2',List.getD_eq_getElem?_getD,h0];rfl
     |none=>
      exfalso
      rw[List.getD_eq_getElem?_getD,h0]at r2'
      simp at r2'
      obtain⟨sh,val,tok⟩:=x
      simp only at hsl
      cases sh with
      |sl e cs'=>
       simp only[RdD]at r1
       obtain⟨ad,cap,hvv,_⟩:=r1
       rw[r2']at hvv
       simp[undef]at hvv
      |_=>cases hsl
  cases e with
  |exit i=>simp at hr
  |normal=>obtain⟨l,hl,hr⟩:=Ah hr;exact fin l hl hr
  |ret=>obtain⟨l,hl,hr⟩:=Ah hr;exact fin l hl hr
end
end Go.Proofs.YtmhhajdeafijmaaGreat
namespace Go.Proofs.YtmhhajdeafijmaaGreat
open Go.RowKit
set_option linter.unusedVariables false
set_option linter.unusedSectionVars false
set_option linter.unusedSimpArgs false
noncomputable section

def Aec (N:St→St):Prop:=∀cx gh st a w nt,RM cx gh st w→Env nt cx gh st a→ ∃gh',RM cx gh' (N st) w∧Env nt cx gh' (N st) a
theorem Aec.comp {N M:St→St} (hN:Aec N) (hM:Aec M):Aec fun st=>M (N st):=fun cx gh st a w nt m e=>by
 obtain⟨g1,m1,e1⟩:=hN cx gh st a w nt m e
 exact hM cx g1 (N st) a w nt m1 e1
def Ly (x:Cl):Cl:=match x.tok with
 | .elt _ _ _ _ _ _ _=>⟨x.sh,x.val,Hv x.sh .rd⟩
 | .one _ i t=>⟨x.sh,x.val,.bag t (i+1)⟩
 | .prt _ _ _ _ _=>⟨x.sh,x.val,Hv x.sh .rd⟩
 |_=>x
def Atg:PV→PV
 | .v a xs=>.v a (xs.map Ly)
 | .box b o=>.box b o
 |_=>.any
def A5u (keep:List Nat) (st:St):St:={st with env:=keep.map fun i=>(i,Atg (st.get i))}
theorem A73 {cx:Cx} {g:Gh} {st:St} {x:Cl} {v:Value} (h:CR cx g st x v):CR cx g st (Ly x) v:=by
 obtain⟨sh,val,tok⟩:=x
 cases tok with
 |elt t e cs l i d j=>
  refine⟨h.1,?_⟩
  cases sh<;>first|trivial|(intro _ _ e;cases e)
 |one s i t=>exact⟨h.1,h.2.1,h.2.2.1⟩
 |prt t e cs l lo=>
  refine⟨h.1,?_⟩
  cases sh<;>first|trivial|(intro _ _ e;cases e)
 |_=>exact h
theorem Xl {cx:Cx} {g:Gh} {st:St}: ∀ {xs:List Cl} {vs:List Value},CRs cx g st xs vs→CRs cx g st (xs.map Ly) vs
 |[],[],_=>trivial
 |x::xs,v::vs,h=>⟨A73 h.1,Xl h.2⟩
 |[],_::_,h=>h.elim
 |_::_,[],h=>h.elim
theorem A74 {cx:Cx} {g:Gh} {st:St} {p:PV} {v:Value} (h:VR cx g st p v):VR cx g st (Atg p) v:=by
 cases p with
 |any=>trivial
 |v a xs=>cases a with
  |true=>obtain⟨vs,e,h⟩:=h;exact⟨vs,e,Xl h⟩
  |false=>exact Xl (xs:=xs) (vs:=[v]) h
 |box b o=>exact h
 |el _ _ _=>trivial
 |tup _=>trivial
theorem A0u (f:Nat→PV): ∀(keep:List Nat) (i:Nat),look i (keep.map fun i=>(i,f i))=f i∨look i (keep.map fun i=>(i,f i))= .any
 |[],i=>.inr rfl
 |j::r,i=>by
  simp only[List.map_cons]
  rw[E4]
  by_cases h:i=j
  ·subst h;rw[if_pos rfl];exact .inl rfl
  ·rw[if_neg h];exact A0u f r i
theorem Anl (g:Gh) (st:St) (env:List (Nat×PV)):Ext g st g {st with env:=env}:=⟨fun _ _ _ h=>h,fun _ _=>rfl,fun _ h=>h,fun _ h=>h,fun t h _=>⟨h,rfl,rfl,rfl,fun _ _ _=>rfl⟩⟩
theorem RM.env {cx:Cx} {w:World} {g:Gh} {st:St} (m:RM cx g st w) (env:List (Nat×PV)):RM cx g {st with env:=env} w:=
 ⟨m.moved,m.lies,m.g0,m.old,fun k cs hk=>let ⟨vs,e,h1,h2,h3⟩:=m.box k cs hk;⟨vs,e,h1,h2,h3.ext (Anl g st env)⟩,m.inj,m.boxG,m.tok,m.apart,m.tokBox,m.nodup,m.new⟩
theorem A5v (keep:List Nat):Aec (A5u keep):=fun cx gh st a w nt m e=>by
 refine⟨gh,m.env _,e.1,e.2.1,fun i=>?_,e.2.2.2⟩
 have:(A5u keep st).get i=look i (keep.map fun i=>(i,Atg (st.get i))):=rfl
 rw[this]
 rcases A0u (fun i=>Atg (st.get i)) keep i with h|h
 ·rw[h];exact(A74 (e.2.2.1 i)).ext (Anl gh st _)
 ·rw[h];trivial
def pos (t:Nat):List Nat→Option Nat
 |[]=>none
 |u::r=>cond (Nat.beq t u) (some 0) (match pos t r with|some n=>some (n+1)|none=>none)
theorem Ai4 {t:Nat}: ∀ {l:List Nat} {n:Nat},pos t l=some n→l[n]? =some t
 |[],n,h=>by simp[pos]at h
 |u::r,n,h=>by
  unfold pos at h
  cases hb:Nat.beq t u with
  |true=>
   rw[hb]at h;simp at h;subst h
   rw[Nat.eq_of_beq_eq_true hb];rfl
  |false=>
   rw[hb]at h
   simp only[cond_false]at h
   split at h
   ·rename_i m hm
    simp at h;subst h
    simpa using Ai4 hm
   ·cases h
def Qj (l:List Nat) (t:Nat):List Nat:=cond (l.contains t) l (l++[t])
theorem Aa7 {l:List Nat} {t:Nat} (h:l.Nodup):(Qj l t).Nodup:=by
 unfold Qj
 cases hc:l.contains t with
 |true=>exact h
 |false=>
  have hn:t∉l:=fun hm=>by rw[List.contains_iff_mem.2 hm]at hc;cases hc
  simp only[cond_false]
  exact List.nodup_append.2 ⟨h,List.pairwise_singleton _ _,fun x hx y hy=>by simp at hy;subst hy;exact fun e=>hn (e▸hx)⟩
def Kn:List Nat→List (Nat×PV)→List Nat
 |acc,[]=>acc
 |acc,(_,.box b _)::r=>Kn (Qj acc b) r
 |acc,_::r=>Kn acc r
def Qk (st:St):List Nat→List (Nat×List Cl)
 |[]=>[]
 |k::r=>match st.bx k with|some cs=>(k,cs.map Ly)::Qk st r|none=>Qk st r
def Nw (st:St):St:={st with boxes:=Qk st (Kn [] st.env)}
theorem Ath {l:List Nat} {t u:Nat} (h:u∈l∨u=t):u∈Qj l t:=by
 unfold Qj
 cases hc:l.contains t with
 |true=>
  rcases h with h|h
  ·exact h
  ·subst h;exact List.contains_iff_mem.1 hc
 |false=>
  simp only[cond_false];rcases h with h|h
  ·exact List.mem_append.2 (.inl h)
  ·subst h;simp
theorem Ao7: ∀ {e:List (Nat×PV)} {acc:List Nat} {b:Nat},(b∈acc→b∈Kn acc e)∧ ∀i o,look i e= .box b o→b∈Kn acc e
 |[],acc,b=>⟨fun h=>h,fun i o h=>by simp[look]at h⟩
 |(j,x)::r,acc,b=>by
  have key: ∀acc',(b∈acc→b∈acc')→(∀o,x= .box b o→b∈acc')→(b∈acc→b∈Kn acc' r)∧ ∀i o,look i ((j,x)::r)= .box b o→b∈Kn acc' r:=fun acc' h1 h2=>by
   have ih:=Ao7 (e:=r) (acc:=acc') (b:=b)
   refine⟨fun h=>ih.1 (h1 h),fun i o h=>?_⟩
   rw[E4]at h
   split at h
   ·exact ih.1 (h2 o h)
   ·exact ih.2 i o h
  cases x with
  |box b' o'=>exact key (Qj acc b') (fun h=>Ath (.inl h)) (fun o h=>by cases h;exact Ath (.inr rfl))
  |any=>exact key acc (fun h=>h) (fun o h=>by cases h)
  |v a xs=>exact key acc (fun h=>h) (fun o h=>by cases h)
  |el _ _ xs=>exact key acc (fun h=>h) (fun o h=>by cases h)
  |tup l=>exact key acc (fun h=>h) (fun o h=>by cases h)
theorem Ai5 (st:St): ∀(l:List Nat) (i:Nat),(B7 i (Qk st l)=(st.bx i).map (fun cs=>cs.map Ly)∨B7 i (Qk st l)=none)∧(i∈l→B7 i (Qk st l)=(st.bx i).map fun cs=>cs.map Ly)
 |[],i=>⟨.inr rfl,fun h=>by cases h⟩
 |k::r,i=>by
  have ih:=Ai5 st r i
  unfold Qk
  cases hk:st.bx k with
  |none=>
   simp only
   refine⟨ih.1,fun hm=>?_⟩
   rcases List.mem_cons.1 hm with e|hm'
   ·subst e
    rcases ih.1 with h|h
    ·exact h
    ·rw[h,hk];rfl
   ·exact ih.2 hm'
  |some cs=>
   simp only
   have hl:B7 i ((k,cs.map Ly)::Qk st r)=if i=k then some (cs.map Ly)else B7 i (Qk st r):=by
    show cond (Nat.beq i k) (some (cs.map Ly)) (B7 i (Qk st r))=_
    by_cases h:i=k
    ·subst h;simp
    ·have:Nat.beq i k=false:=by
      cases hb:Nat.beq i k with
      |false=>rfl
      |true=>exact(h (Nat.eq_of_beq_eq_true hb)).elim
     simp[h,this]
   rw[hl]
   by_cases h:i=k
   ·subst h;rw[if_pos rfl,hk];exact⟨.inl rfl,fun _=>rfl⟩
   ·rw[if_neg h]
    exact⟨ih.1,fun hm=>ih.2 ((List.mem_cons.1 hm).resolve_left h)⟩
theorem A5w:Aec Nw:=fun cx gh st a w nt m e=>by
 have hbx: ∀ {k:Nat} {cs:List Cl},(Nw st).bx k=some cs→ ∃c0,st.bx k=some c0∧cs=c0.map Ly:=fun {k cs} h=>by
  have h':B7 k (Qk st (Kn [] st.env))=some cs:=h
  rcases(Ai5 st (Kn [] st.env) k).1 with q|q
  ·rw[q]at h'
   cases hb:st.bx k with
   |none=>rw[hb]at h';cases h'
   |some c0=>rw[hb]at h';simp at h';exact⟨c0,rfl,h'.symm⟩
  ·rw[q]at h';cases h'
 have hhas: ∀ {k:Nat},(Nw st).has k=true→st.has k=true:=fun {k} h=>by
  obtain⟨cs,hcs⟩:=Fj h
  obtain⟨c0,h0,_⟩:=hbx hcs
  exact Fk h0
 have hcr: ∀ {x:Cl} {v:Value},CR cx gh st x v→CR cx gh (Nw st) x v:=fun {x v} h=>h
 have hcrs: ∀ {xs:List Cl} {vs:List Value},CRs cx gh st xs vs→CRs cx gh (Nw st) xs vs:=by
  intro xs
  induction xs with
  |nil=>intro vs h;cases vs with|nil=>trivial|cons _ _=>exact h.elim
  |cons x xs ih=>intro vs h;cases vs with|nil=>exact h.elim|cons v vs=>exact⟨hcr h.1,ih h.2⟩
 have hvv: ∀ {b:Bool} {xs:List Cl} {v:Value},VRv cx gh st b xs v→VRv cx gh (Nw st) b xs v:=fun {b xs v} h=>by
  cases b with
  |true=>obtain⟨vs,e,h⟩:=h;exact⟨vs,e,hcrs h⟩
  |false=>exact hcrs (xs:=xs) (vs:=[v]) h
 have hvt: ∀ {l:List (Bool×List Cl)} {vs:List Value},VRt cx gh st l vs→VRt cx gh (Nw st) l vs:=by
  intro l
  induction l with
  |nil=>intro vs h;cases vs with|nil=>trivial|cons _ _=>exact h.elim
  |cons x xs ih=>intro vs h;cases vs with|nil=>exact h.elim|cons v vs=>exact⟨hvv h.1,ih h.2⟩
 have hel: ∀ {ro:Bool} {xs:List Cl} {b o:Nat},ElR cx gh st ro xs b o→ElR cx gh (Nw st) ro xs b o:=by
  intro ro xs
  induction xs with
  |nil=>intro b o h;trivial
  |cons x xs ih=>intro b o h;obtain⟨⟨u,h1,h2⟩,h3⟩:=h;exact⟨⟨u,h1,hcr h2⟩,ih h3⟩
 refine⟨gh,⟨m.moved,m.lies,m.g0,m.old,fun k cs hk=>?_,fun i j hi hj=>m.inj i j (hhas hi) (hhas hj),fun k o hk=>m.boxG k o (hhas hk),m.tok,m.apart,fun t k ht hk=>m.tokBox t k ht (hhas hk),m.nodup,m.new⟩,e.1,e.2.1,fun i=>?_,e.2.2.2⟩
 ·obtain⟨c0,h0,rfl⟩:=hbx hk
  obtain⟨vs,e',h1,h2,h3⟩:=m.box k c0 h0
  exact⟨vs,e',h1,h2,hcrs (Xl h3)⟩
 ·have:(Nw st).get i=st.get i:=rfl
  rw[this]
  have hv:=e.2.2.1 i
  cases hg:st.get i with
  |any=>trivial
  |v b xs=>rw[hg]at hv;exact hvv hv
  |box b o=>
   rw[hg]at hv
   refine⟨?_,hv.2⟩
   have hm:=(Ao7 (e:=st.env) (acc:=[]) (b:=b)).2 i o hg
   have h2:(Nw st).bx b=(st.bx b).map fun cs=>cs.map Ly:=(Ai5 st (Kn [] st.env) b).2 hm
   show((Nw st).bx b).isSome=true
   obtain⟨c0,h0⟩:=Fj hv.1
   rw[h2,h0];rfl
  |el p ro xs=>rw[hg]at hv;obtain⟨b,o,e',h1,h2⟩:=hv;exact⟨b,o,e',hel h1,h2⟩
  |tup l=>rw[hg]at hv;obtain⟨vs,e',hv⟩:=hv;exact⟨vs,e',hvt hv⟩
def Bk (n:Nat):List Cl→List Cl×Nat
 |[]=>([],n)
 |⟨.sl e cs,d,.nil⟩::r=>let x:=Bk (n+1) r;(⟨.sl e cs,d,.own n⟩::x.1,x.2)
 |x::r=>let y:=Bk n r;(x::y.1,y.2)
def C8 (n:Nat):List (Nat×PV)→List (Nat×PV)×Nat
 |[]=>([],n)
 |(i,.v a xs)::r=>let x:=Bk n xs;let y:=C8 x.2 r;((i,.v a x.1)::y.1,y.2)
 |p::r=>let y:=C8 n r;(p::y.1,y.2)
def G7 (n:Nat):List (Nat×List Cl)→List (Nat×List Cl)×Nat
 |[]=>([],n)
 |(k,xs)::r=>let x:=Bk n xs;let y:=G7 x.2 r;((k,x.1)::y.1,y.2)
theorem N9: ∀(n:Nat) (xs:List Cl),n≤(Bk n xs).2
 |n,[]=>Nat.le_refl _
 |n,x::r=>by
  unfold Bk
  split
  ·rename_i h;cases h
  ·rename_i h;cases h;exact Nat.le_trans (Nat.le_succ n) (N9 (n+1) _)
  ·rename_i h;cases h;exact N9 n _
theorem Rp: ∀(n:Nat) (e:List (Nat×PV)),n≤(C8 n e).2
 |n,[]=>Nat.le_refl _
 |n,(i,.v a xs)::r=>Nat.le_trans (N9 n xs) (Rp _ r)
 |n,(i,.any)::r=>Rp n r
 |n,(i,.box _ _)::r=>Rp n r
 |n,(i,.el _ _ _)::r=>Rp n r
 |n,(i,.tup _)::r=>Rp n r
theorem Au1: ∀(n:Nat) (e:List (Nat×List Cl)),n≤(G7 n e).2
 |n,[]=>Nat.le_refl _
 |n,(k,xs)::r=>Nat.le_trans (N9 n xs) (Au1 _ r)
theorem Aa8 {cx:Cx} {w:World}: ∀ {xs:List Cl} {vs:List Value} {g:Gh} {st:St} {n:Nat},RM cx g st w→CRs cx g st xs vs→(∀t,n≤t→t<(Bk n xs).2→t∉st.used)→
  ∃g',RM cx g' (more st n ((Bk n xs).2-n)) w∧Ext g st g' (more st n ((Bk n xs).2-n))∧g'.B=g.B∧CRs cx g' (more st n ((Bk n xs).2-n)) (Bk n xs).1 vs
 |[],[],g,st,n,hM,_,_=>by
  have:more st n ((Bk n []).2-n)=st:=by simp[Bk,Ti]
  rw[this]
  exact⟨g,hM,Ext.refl _ _,rfl,trivial⟩
 |x::xs,v::vs,g,st,n,hM,hc,hu=>by
  by_cases hx: ∃e cs d,x=⟨.sl e cs,d,.nil⟩
  ·obtain⟨e,cs,d,rfl⟩:=hx
   have hd:Bk n (⟨.sl e cs,d,.nil⟩::xs)=(⟨.sl e cs,d,.own n⟩::(Bk (n+1) xs).1,(Bk (n+1) xs).2):=rfl
   rw[hd]at hu ⊢
   have hge:=N9 (n+1) xs
   simp only at hu ⊢
   have hst:more st n ((Bk (n+1) xs).2-n)=more {st with live:=n::st.live,used:=n::st.used} (n+1) ((Bk (n+1) xs).2-(n+1)):=by
    rw[show(Bk (n+1) xs).2-n=((Bk (n+1) xs).2-(n+1))+1 by omega];exact Awf st n _
   rw[hst]
   obtain⟨⟨h1,h2⟩,h3⟩:=hc
   obtain⟨a,ha⟩:=h2 e cs rfl
   have hO:A4 Ac.emp (.sl e cs) d v:=Afn h1 (fun _ _ _=>⟨a,ha⟩)
   obtain⟨g1,M1,E1,C1,B1,_⟩:=As2 hM (hu n (Nat.le_refl _) (by omega)) (live':=st.live) (fun _ h=>h) hM.nodup (Ba.emp w) (s:=.sl e cs) (hsl:=rfl) (hf:=fun b o hb=>by cases hb) (hO:=hO) (hr:=fun b m cap hv hc=>by rw[ha]at hv;cases hv;omega)
   obtain⟨g2,M2,E2,B2,C2⟩:=Aa8 (n:=n+1) M1 (h3.ext E1) (fun t t1 t2 hm=>by
    rcases List.mem_cons.1 hm with q|q
    ·omega
    ·exact hu t (by omega) t2 q)
   exact⟨g2,M2,E1.trans E2,B2.trans B1,C1.ext E2,C2⟩
  ·have hd:Bk n (x::xs)=(x::(Bk n xs).1,(Bk n xs).2):=by
    rw[Bk.eq_def]
    split
    ·rename_i h;cases h
    ·rename_i h;cases h;exact(hx ⟨_,_,_,rfl⟩).elim
    ·rename_i h;cases h;rfl
   rw[hd]at hu ⊢
   obtain⟨g2,M2,E2,B2,C2⟩:=Aa8 (n:=n) hM hc.2 hu
   exact⟨g2,M2,E2,B2,hc.1.ext E2,C2⟩
 |[],_::_,_,_,_,_,h,_=>h.elim
 |_::_,[],_,_,_,_,h,_=>h.elim
theorem Au2 {cx:Cx} {w:World} (val:Nat→Value): ∀ {env:List (Nat×PV)} {g:Gh} {st:St} {n:Nat},(env.map fun p=>p.1).Nodup→RM cx g st w→(∀p,p∈env→VR cx g st p.2 (val p.1))→(∀t,n≤t→t<(C8 n env).2→t∉st.used)→
  ∃g',RM cx g' (more st n ((C8 n env).2-n)) w∧Ext g st g' (more st n ((C8 n env).2-n))∧g'.B=g.B∧ ∀p,p∈(C8 n env).1→VR cx g' (more st n ((C8 n env).2-n)) p.2 (val p.1)
 |[],g,st,n,_,hM,_,_=>by
  have:more st n ((C8 n []).2-n)=st:=by simp[C8,Ti]
  rw[this]
  exact⟨g,hM,Ext.refl _ _,rfl,fun p hp=>by cases hp⟩
 |(i,p)::r,g,st,n,hn,hM,hv,hu=>by
  have hn2:=(List.nodup_cons.1 hn).2
  have skip:C8 n ((i,p)::r)=((i,p)::(C8 n r).1,(C8 n r).2)→ ∃g',RM cx g' (more st n ((C8 n ((i,p)::r)).2-n)) w∧Ext g st g' (more st n ((C8 n ((i,p)::r)).2-n))∧g'.B=g.B∧ ∀q,q∈(C8 n ((i,p)::r)).1→VR cx g' (more st n ((C8 n ((i,p)::r)).2-n)) q.2 (val q.1):=fun hd=>by
   rw[hd]at hu ⊢
   obtain⟨g2,M2,E2,B2,C2⟩:=Au2 val (n:=n) hn2 hM (fun q hq=>hv q (by simp[hq])) hu
   refine⟨g2,M2,E2,B2,fun q hq=>?_⟩
   rcases List.mem_cons.1 hq with e|hq
   ·subst e;exact(hv (i,p) (by simp)).ext E2
   ·exact C2 q hq
  cases p with
  |v a xs=>
   have hd:C8 n ((i,.v a xs)::r)=((i,.v a (Bk n xs).1)::(C8 (Bk n xs).2 r).1,(C8 (Bk n xs).2 r).2):=rfl
   rw[hd]at hu ⊢
   simp only at hu ⊢
   have g1:=N9 n xs
   have g2:=Rp (Bk n xs).2 r
   have h0:=hv (i,.v a xs) (by simp)
   have key: ∃g',RM cx g' (more st n ((Bk n xs).2-n)) w∧Ext g st g' (more st n ((Bk n xs).2-n))∧g'.B=g.B∧VRv cx g' (more st n ((Bk n xs).2-n)) a (Bk n xs).1 (val i):=by
    cases a with
    |true=>
     obtain⟨vs,e,h0⟩:=h0
     obtain⟨g',M1,E1,B1,C1⟩:=Aa8 (n:=n) hM h0 (fun t t1 t2=>hu t t1 (by omega))
     exact⟨g',M1,E1,B1,vs,e,C1⟩
    |false=>exact Aa8 (n:=n) (vs:=[val i]) hM h0 (fun t t1 t2=>hu t t1 (by omega))
   obtain⟨g',M1,E1,B1,C1⟩:=key
   have hst:more (more st n ((Bk n xs).2-n)) (Bk n xs).2 ((C8 (Bk n xs).2 r).2-(Bk n xs).2)=more st n ((C8 (Bk n xs).2 r).2-n):=by
    have:=Aca st n ((Bk n xs).2-n) ((C8 (Bk n xs).2 r).2-(Bk n xs).2)
    rw[show n+((Bk n xs).2-n)=(Bk n xs).2 by omega]at this
    rw[this];congr 1;omega
   obtain⟨g3,M3,E3,B3,C3⟩:=Au2 val (n:=(Bk n xs).2) hn2 M1 (fun q hq=>(hv q (by simp[hq])).ext E1) (fun t t1 t2 hm=>by
    rcases List.mem_append.1 hm with hm|hm
    ·have:=List.mem_range'_1.1 (List.mem_reverse.1 hm);omega
    ·exact hu t (by omega) t2 hm)
   rw[hst]at M3 E3 C3
   refine⟨g3,M3,E1.trans E3,B3.trans B1,fun q hq=>?_⟩
   rcases List.mem_cons.1 hq with e|hq
   ·subst e;exact VRv.ext E3 C1
   ·exact C3 q hq
  |any=>exact skip rfl
  |box _ _=>exact skip rfl
  |el _ _ _=>exact skip rfl
  |tup _=>exact skip rfl
theorem A3r {cx:Cx} {w:World}: ∀ {L:List (Nat×List Cl)} {g:Gh} {st:St} {n:Nat},RM cx g st w→(∀p,p∈L→ ∃(vs:List Value) (e:TypeId),w.heap[g.B p.1]? =some (.cells vs.toArray e (0,0))∧CRs cx g st p.2 vs)→(∀t,n≤t→t<(G7 n L).2→t∉st.used)→
  ∃g',RM cx g' (more st n ((G7 n L).2-n)) w∧Ext g st g' (more st n ((G7 n L).2-n))∧g'.B=g.B∧ ∀p,p∈(G7 n L).1→ ∃(vs:List Value) (e:TypeId),w.heap[g'.B p.1]? =some (.cells vs.toArray e (0,0))∧CRs cx g' (more st n ((G7 n L).2-n)) p.2 vs
 |[],g,st,n,hM,_,_=>by
  have:more st n ((G7 n []).2-n)=st:=by simp[G7,Ti]
  rw[this]
  exact⟨g,hM,Ext.refl _ _,rfl,fun p hp=>by cases hp⟩
 |(k,xs)::r,g,st,n,hM,hv,hu=>by
  have hd:G7 n ((k,xs)::r)=((k,(Bk n xs).1)::(G7 (Bk n xs).2 r).1,(G7 (Bk n xs).2 r).2):=rfl
  rw[hd]at hu ⊢
  simp only at hu ⊢
  have g1:=N9 n xs
  have g2:=Au1 (Bk n xs).2 r
  obtain⟨vs,e,h0,h1'⟩:=hv (k,xs) (by simp)
  have h1:CRs cx g st xs vs:=h1'
  obtain⟨g',M1,E1,B1,C1⟩:=Aa8 (n:=n) hM h1 (fun t t1 t2=>hu t t1 (by omega))
  have hst:more (more st n ((Bk n xs).2-n)) (Bk n xs).2 ((G7 (Bk n xs).2 r).2-(Bk n xs).2)=more st n ((G7 (Bk n xs).2 r).2-n):=by
   have:=Aca st n ((Bk n xs).2-n) ((G7 (Bk n xs).2 r).2-(Bk n xs).2)
   rw[show n+((Bk n xs).2-n)=(Bk n xs).2 by omega]at this
   rw[this];congr 1;omega
  obtain⟨g3,M3,E3,B3,C3⟩:=A3r (L:=r) (n:=(Bk n xs).2) M1 (fun q hq=>by
   obtain⟨us,e',k1,k2⟩:=hv q (by simp[hq])
   exact⟨us,e',by rw[B1];exact k1,k2.ext E1⟩) (fun t t1 t2 hm=>by
   rcases List.mem_append.1 hm with hm|hm
   ·have:=List.mem_range'_1.1 (List.mem_reverse.1 hm);omega
   ·exact hu t (by omega) t2 hm)
  rw[hst]at M3 E3 C3
  refine⟨g3,M3,E1.trans E3,B3.trans B1,fun q hq=>?_⟩
  rcases List.mem_cons.1 hq with e'|hq
  ·subst e'
   exact⟨vs,e,by rw[B3,B1];exact h0,C1.ext E3⟩
  ·exact C3 q hq
end
end Go.Proofs.YtmhhajdeafijmaaGreat
namespace Go.Proofs.YtmhhajdeafijmaaGreat
open Go.RowKit
set_option linter.unusedVariables false
set_option linter.unusedSectionVars false
set_option linter.unusedSimpArgs false
noncomputable section

theorem A0v: ∀ {e:List (Nat×PV)} {i:Nat},look i e= .any∨(i,look i e)∈e
 |[],i=>.inl rfl
 |(j,x)::r,i=>by
  rw[E4]
  by_cases h:i=j
  ·subst h;rw[if_pos rfl];right;simp
  ·rw[if_neg h]
   rcases A0v (e:=r) (i:=i)with q|q
   ·exact .inl q
   ·exact .inr (List.mem_cons_of_mem _ q)
theorem Ao8: ∀ {e:List (Nat×PV)} {p:Nat×PV},(e.map fun p=>p.1).Nodup→p∈e→look p.1 e=p.2
 |(j,x)::r,p,hn,h=>by
  simp only[List.map_cons]at hn
  have hn':=List.nodup_cons.1 hn
  rw[E4]
  rcases List.mem_cons.1 h with e|h
  ·subst e;simp
  ·rw[if_neg (fun e=>hn'.1 (by rw[←e];exact List.mem_map.2 ⟨p,h,rfl⟩))]
   exact Ao8 hn'.2 h
theorem Ql (i k:Nat) (xs:List Cl) (r:List (Nat×List Cl)):B7 i ((k,xs)::r)=if i=k then some xs else B7 i r:=by
 show cond (Nat.beq i k) (some xs) (B7 i r)=_
 by_cases h:i=k
 ·subst h;simp
 ·have:Nat.beq i k=false:=by
   cases hb:Nat.beq i k with
   |false=>rfl
   |true=>exact(h (Nat.eq_of_beq_eq_true hb)).elim
  simp[h,this]
theorem Awp: ∀ {L:List (Nat×List Cl)} {i:Nat} {cs:List Cl},B7 i L=some cs→(i,cs)∈L
 |[],i,cs,h=>by cases h
 |(k,xs)::r,i,cs,h=>by
  rw[Ql]at h
  split at h
  ·rename_i e;simp at h;subst e;subst h;simp
  ·exact List.mem_cons_of_mem _ (Awp h)
theorem Amw: ∀ {L:List (Nat×List Cl)} {p:Nat×List Cl},(L.map fun p=>p.1).Nodup→p∈L→B7 p.1 L=some p.2
 |(k,xs)::r,p,hn,h=>by
  simp only[List.map_cons]at hn
  have hn':=List.nodup_cons.1 hn
  rw[Ql]
  rcases List.mem_cons.1 h with e|h
  ·subst e;simp
  ·rw[if_neg (fun e=>hn'.1 (by rw[←e];exact List.mem_map.2 ⟨p,h,rfl⟩))]
   exact Amw hn'.2 h
theorem RM.reBox {cx:Cx} {w:World} {g:Gh} {st:St} (m:RM cx g st w) {bs:List (Nat×List Cl)} (h: ∀k cs,B7 k bs=some cs→st.has k=true∧ ∃(vs:List Value) (e:TypeId),w.heap[g.B k]? =some (.cells vs.toArray e (0,0))∧CRs cx g st cs vs)
  (hh: ∀k,st.has k=true→(B7 k bs).isSome=true):RM cx g {st with boxes:=bs} w∧Ext g st g {st with boxes:=bs}:=by
 have hE:Ext g st g {st with boxes:=bs}:=⟨fun _ _ _ h=>h,fun _ _=>rfl,fun k hk=>hh k hk,fun _ h=>h,fun t ht _=>⟨ht,rfl,rfl,rfl,fun _ _ _=>rfl⟩⟩
 have hs: ∀k,({st with boxes:=bs}:St).has k=true→st.has k=true:=fun k hk=>by
  obtain⟨cs,hcs⟩:=Fj hk
  exact(h k cs hcs).1
 refine⟨⟨m.moved,m.lies,m.g0,m.old,fun k cs hk=>?_,fun i j hi hj=>m.inj i j (hs i hi) (hs j hj),fun k o hk=>m.boxG k o (hs k hk),m.tok,m.apart,fun t k ht hk=>m.tokBox t k ht (hs k hk),m.nodup,m.new⟩,hE⟩
 obtain⟨h1,vs,e,h2,h3⟩:=h k cs hk
 obtain⟨c0,hc0⟩:=Fj h1
 obtain⟨_,_,_,hm,_⟩:=m.box k c0 hc0
 exact⟨vs,e,h2,hm,h3.ext hE⟩
def A0w (n:Nat) (st:St):St:=
 let x:=C8 n st.env
 let y:=G7 x.2 st.boxes
 cond (Qf (st.env.map fun p=>p.1) && Qf (st.boxes.map fun p=>p.1) && (List.range' n (y.2-n)).all fun t=> !st.used.contains t)
  {env:=x.1,boxes:=y.1,live:=(List.range' n (y.2-n)).reverse++st.live,used:=(List.range' n (y.2-n)).reverse++st.used} st
theorem Amx: ∀ {n:Nat} {L:List (Nat×List Cl)},((G7 n L).1.map fun p=>p.1)=L.map fun p=>p.1
 |n,[]=>rfl
 |n,(k,xs)::r=>by
  show k::((G7 (Bk n xs).2 r).1.map fun p=>p.1)=_
  rw[Amx];rfl
theorem Acf: ∀ {L:List (Nat×List Cl)} {i:Nat},(B7 i L).isSome=true↔i∈L.map fun p=>p.1
 |[],i=>by simp[B7]
 |(k,xs)::r,i=>by
  rw[Ql]
  by_cases h:i=k
  ·subst h;simp
  ·rw[if_neg h];simp only[List.map_cons,List.mem_cons,h,false_or];exact Acf
theorem A2j (n:Nat):Aec (A0w n):=fun cx gh st a w nt m e=>by
 unfold A0w
 simp only
 cases hc:(Qf (st.env.map fun p=>p.1) && Qf (st.boxes.map fun p=>p.1) && (List.range' n ((G7 (C8 n st.env).2 st.boxes).2-n)).all fun t=> !st.used.contains t)with
 |false=>exact⟨gh,m,e⟩
 |true=>
  simp only[Bool.and_eq_true]at hc
  obtain⟨⟨h1,h2⟩,h3⟩:=hc
  have h1:=Acc h1
  have h2:=Acc h2
  have g1:=Rp n st.env
  have g2:=Au1 (C8 n st.env).2 st.boxes
  have hu: ∀t,n≤t→t<(G7 (C8 n st.env).2 st.boxes).2→t∉st.used:=fun t t1 t2=>by
   have:=(List.all_eq_true.1 h3) t (List.mem_range'_1.2 ⟨t1,by omega⟩)
   simpa using this
  obtain⟨gh1,M1,E1,B1,C1⟩:=Au2 (fun i=>a.tmps.getD i undef) (n:=n) h1 m (fun p hp=>by rw[←Ao8 h1 hp];exact e.2.2.1 p.1) (fun t t1 t2=>hu t t1 (by omega))
  have hst:more (more st n ((C8 n st.env).2-n)) (C8 n st.env).2 ((G7 (C8 n st.env).2 st.boxes).2-(C8 n st.env).2)=more st n ((G7 (C8 n st.env).2 st.boxes).2-n):=by
   have:=Aca st n ((C8 n st.env).2-n) ((G7 (C8 n st.env).2 st.boxes).2-(C8 n st.env).2)
   rw[show n+((C8 n st.env).2-n)=(C8 n st.env).2 by omega]at this
   rw[this];congr 1;omega
  obtain⟨gh2,M2,E2,B2,C2⟩:=A3r (L:=st.boxes) (n:=(C8 n st.env).2) M1 (fun p hp=>by
   obtain⟨vs,ty,k1,k2,k3⟩:=m.box p.1 p.2 (Amw h2 hp)
   exact⟨vs,ty,by rw[B1];exact k1,k3.ext E1⟩) (fun t t1 t2 hm=>by
   rcases List.mem_append.1 hm with q|q
   ·have:=List.mem_range'_1.1 (List.mem_reverse.1 q);omega
   ·exact hu t (by omega) t2 q)
  rw[hst]at M2 E2 C2
  obtain⟨M3,E3⟩:=M2.reBox (bs:=(G7 (C8 n st.env).2 st.boxes).1) (fun k cs hk=>by
   refine⟨?_,C2 (k,cs) (Awp hk)⟩
   show(B7 k st.boxes).isSome=true
   rw[Acf,←Amx (n:=(C8 n st.env).2),←Acf,hk];rfl) (fun k hk=>by
   have hk':(B7 k st.boxes).isSome=true:=hk
   rw[Acf]at hk' ⊢
   rw[Amx];exact hk')
  refine⟨gh2,M3.env (C8 n st.env).1,e.1,e.2.1,fun i=>?_,e.2.2.2⟩
  show VR cx gh2 _ (look i (C8 n st.env).1) _
  rcases A0v (e:=(C8 n st.env).1) (i:=i)with q|q
  ·rw[q];trivial
  ·exact(((C1 _ q).ext E2).ext E3).ext (Anl gh2 _ _)
abbrev CSk:=List (Sh×Tok)
inductive PSk where
 |any
 |v (agg:Bool) (cs:CSk)
 |box (b off:Nat)
structure Sk where
 env:List (Nat×PSk)
 boxes:List (Nat×CSk)
 live:List Nat
def wkC (t:Tok) (x:Cl):Cl:=
 match t with
 | .rd=>cond (Ds x.sh) ⟨x.sh,x.val,.rd⟩ x
 | .ro=>match x.tok with| .pin _=>⟨x.sh,x.val,.ro⟩|_=>x
 | .row _=>match x.tok with| .own t=>⟨x.sh,x.val,.row t⟩|_=>x
 |_=>x
def A0x:CSk→List Cl→List Cl
 |s::r,x::xs=>wkC s.2 x::A0x r xs
 |_,xs=>xs
def wkV:PSk→PV→PV
 | .v _ cs,.v a xs=>.v a (A0x cs xs)
 |_,p=>p
def wkE:List (Nat×PSk)→List (Nat×PV)→List (Nat×PV)
 |s::r,p::t=>(p.1,wkV s.2 p.2)::wkE r t
 |_,t=>t
def wkB:List (Nat×CSk)→List (Nat×List Cl)→List (Nat×List Cl)
 |s::r,p::t=>(p.1,A0x s.2 p.2)::wkB r t
 |_,t=>t
def wk (k:Sk) (st:St):St:={st with env:=wkE k.env st.env,boxes:=wkB k.boxes st.boxes}
theorem Bcx {cx:Cx} {g:Gh} {st:St} (t:Tok) {x:Cl} {v:Value} (h:CR cx g st x v):CR cx g st (wkC t x) v:=by
 cases t with
 |rd=>
  simp only[wkC]
  cases Ds x.sh with
  |true=>exact⟨h.1,trivial⟩
  |false=>exact h
 |ro=>
  obtain⟨sh,val,tok⟩:=x
  cases tok with
  |pin j=>exact⟨h.1,h.2.1⟩
  |_=>exact h
 |row u=>
  obtain⟨sh,val,tok⟩:=x
  cases tok with
  |own t=>
   refine⟨h.1,h.2.1,fun ht=>?_⟩
   obtain⟨q1,q2,q3,q4,q5⟩:=h.2.2 ht
   refine⟨?_,q2,q3,q4,q5⟩
   cases sh with
   |sl e cs=>
    simp only[A4]at q1
    obtain⟨css,r,hs,r1,r2,r3⟩:=q1
    exact⟨e,cs,_,_,rfl,r1.sub (r2.2 r (by simp))⟩
   |_=>cases q5
  |_=>exact h
 |_=>exact h
theorem Anm {cx:Cx} {g:Gh} {st:St}: ∀ {s:CSk} {xs:List Cl} {vs:List Value},CRs cx g st xs vs→CRs cx g st (A0x s xs) vs
 |s::r,x::xs,v::vs,h=>⟨Bcx s.2 h.1,Anm h.2⟩
 |[],xs,vs,h=>h
 |_::_,[],[],_=>trivial
 |_::_,[],_::_,h=>h.elim
 |_::_,_::_,[],h=>h.elim
theorem Bcy {cx:Cx} {g:Gh} {st:St} {s:PSk} {p:PV} {v:Value} (h:VR cx g st p v):VR cx g st (wkV s p) v:=by
 cases s with
 |v a' cs=>
  cases p with
  |v a xs=>cases a with
   |true=>obtain⟨vs,e,h⟩:=h;exact⟨vs,e,Anm h⟩
   |false=>exact Anm (xs:=xs) (vs:=[v]) h
  |_=>exact h
 |_=>exact h
theorem A75 {cx:Cx} {g:Gh} {st:St} {v:Value} {i:Nat}: ∀ {s:List (Nat×PSk)} {e:List (Nat×PV)},VR cx g st (look i e) v→VR cx g st (look i (wkE s e)) v
 |s::r,p::t,h=>by
  obtain⟨j,x⟩:=p
  simp only[wkE]
  rw[E4]at h ⊢
  by_cases hj:i=j
  ·rw[if_pos hj]at h ⊢;exact Bcy h
  ·rw[if_neg hj]at h ⊢;exact A75 h
 |[],e,h=>h
 |_::_,[],h=>h
theorem Aqz {i:Nat}: ∀ {s:List (Nat×CSk)} {L:List (Nat×List Cl)},(B7 i (wkB s L)).isSome=(B7 i L).isSome∧ ∀cs,B7 i (wkB s L)=some cs→ ∃c0 k,B7 i L=some c0∧cs=A0x k c0
 |s::r,p::t=>by
  obtain⟨j,x⟩:=p
  simp only[wkB]
  rw[Ql,Ql]
  by_cases hj:i=j
  ·rw[if_pos hj,if_pos hj]
   exact⟨rfl,fun cs h=>⟨x,s.2,rfl,by simpa using h.symm⟩⟩
  ·rw[if_neg hj,if_neg hj];exact Aqz
 |[],L=>⟨rfl,fun cs h=>⟨cs,[],h,by cases cs<;>rfl⟩⟩
 |_::_,[]=>⟨rfl,fun cs h=>by cases h⟩
theorem Bbe (k:Sk):Aec (wk k):=fun cx gh st a w nt m e=>by
 obtain⟨M3,E3⟩:=m.reBox (bs:=wkB k.boxes st.boxes) (fun i cs hk=>by
  obtain⟨c0,s,h1,h2⟩:=Aqz.2 cs hk
  obtain⟨vs,ty,k1,k2,k3⟩:=m.box i c0 h1
  exact⟨Fk h1,vs,ty,k1,by rw[h2];exact Anm k3⟩) (fun i hi=>by
  rw[Aqz.1];exact hi)
 refine⟨gh,M3.env _,e.1,e.2.1,fun i=>?_,e.2.2.2⟩
 show VR cx gh _ (look i (wkE k.env st.env)) _
 exact((A75 (e.2.2.1 i)).ext E3).ext (Anl gh _ _)
def Oo (acc:List Nat):List Cl→List Nat
 |[]=>acc
 |⟨_,_,.own t⟩::r=>Oo (Qj acc t) r
 |⟨_,_,.row t⟩::r=>Oo (Qj acc t) r
 |⟨_,_,.bag t _⟩::r=>Oo (Qj acc t) r
 |_::r=>Oo acc r
def Aq0 (acc:List Nat):List (Bool×List Cl)→List Nat
 |[]=>acc
 |x::r=>Aq0 (Oo acc x.2) r
def Rq (acc:List Nat):List (Nat×PV)→List Nat
 |[]=>acc
 |(_,.v _ xs)::r=>Rq (Oo acc xs) r
 |(_,.tup l)::r=>Rq (Aq0 acc l) r
 |_::r=>Rq acc r
def Ai6 (acc:List Nat):List (Nat×List Cl)→List Nat
 |[]=>acc
 |x::r=>Ai6 (Oo acc x.2) r
theorem Cv: ∀ {xs:List Cl} {acc:List Nat},acc.Nodup→(Oo acc xs).Nodup
 |[],acc,h=>h
 |⟨_,_,.own t⟩::r,acc,h=>Cv (xs:=r) (Aa7 h)
 |⟨_,_,.row t⟩::r,acc,h=>Cv (xs:=r) (Aa7 h)
 |⟨_,_,.rd⟩::r,acc,h=>Cv (xs:=r) h
 |⟨_,_,.pin _⟩::r,acc,h=>Cv (xs:=r) h
 |⟨_,_,.elt _ _ _ _ _ _ _⟩::r,acc,h=>Cv (xs:=r) h
 |⟨_,_,.bag t _⟩::r,acc,h=>Cv (xs:=r) (Aa7 h)
 |⟨_,_,.one _ _ _⟩::r,acc,h=>Cv (xs:=r) h
 |⟨_,_,.nst _⟩::r,acc,h=>Cv (xs:=r) h
 |⟨_,_,.prt _ _ _ _ _⟩::r,acc,h=>Cv (xs:=r) h
 |⟨_,_,.ro⟩::r,acc,h=>Cv (xs:=r) h
 |⟨_,_,.nil⟩::r,acc,h=>Cv (xs:=r) h
theorem Afv: ∀ {xs:List (Bool×List Cl)} {acc:List Nat},acc.Nodup→(Aq0 acc xs).Nodup
 |[],acc,h=>h
 |x::r,acc,h=>Afv (xs:=r) (Cv (xs:=x.2) h)
theorem Hm: ∀ {xs:List (Nat×PV)} {acc:List Nat},acc.Nodup→(Rq acc xs).Nodup
 |[],acc,h=>h
 |(_,.v _ xs)::r,acc,h=>Hm (xs:=r) (Cv (xs:=xs) h)
 |(_,.tup l)::r,acc,h=>Hm (xs:=r) (Afv (xs:=l) h)
 |(_,.any)::r,acc,h=>Hm (xs:=r) h
 |(_,.box _ _)::r,acc,h=>Hm (xs:=r) h
 |(_,.el _ _ _)::r,acc,h=>Hm (xs:=r) h
theorem Afw: ∀ {xs:List (Nat×List Cl)} {acc:List Nat},acc.Nodup→(Ai6 acc xs).Nodup
 |[],acc,h=>h
 |x::r,acc,h=>Afw (xs:=r) (Cv (xs:=x.2) h)
def Ai7 (z:Nat) (ts:List Nat) (x:Cl):Cl:=
 match x with
 |⟨s,d,.own t⟩=>⟨s,d,match pos t ts with|some n=>.own (z+n)|none=>.rd⟩
 |⟨s,d,.row t⟩=>⟨s,d,match pos t ts with|some n=>.row (z+n)|none=>.rd⟩
 |⟨s,d,.elt _ _ _ _ _ _ _⟩=>⟨s,d,Hv s .rd⟩
 |⟨s,d,.bag t lo⟩=>⟨s,d,match pos t ts with|some n=>.bag (z+n) lo|none=>.rd⟩
 |⟨s,d,.one _ _ _⟩=>⟨s,d,Hv s .rd⟩
 |⟨s,d,.nst _⟩=>⟨s,d,Hv s .rd⟩
 |⟨s,d,.prt _ _ _ _ _⟩=>⟨s,d,Hv s .rd⟩
 |x=>x
def A5x (z:Nat) (ts:List Nat):PV→PV
 | .v a xs=>.v a (xs.map (Ai7 z ts))
 | .box b o=>.box b o
 |_=>.any
def Xm (z:Nat) (st:St):St:=
 let ts:=(Ai6 (Rq [] st.env) st.boxes).filter fun t=>st.live.contains t
 {env:=st.env.map fun p=>(p.1,A5x z ts p.2),boxes:=st.boxes.map fun b=>(b.1,b.2.map (Ai7 z ts)),live:=List.range' z ts.length,used:=List.range' z ts.length}
theorem A5y (z:Nat):Aec (Xm z):=fun cx gh st a w nt m e=>by
 let ts:=(Ai6 (Rq [] st.env) st.boxes).filter fun t=>st.live.contains t
 have hts: ∀ {n t:Nat},ts[n]? =some t→t∈st.live:=fun {n t} h=>by
  have h2:=(List.mem_filter.1 (List.mem_of_getElem? h)).2
  simpa using h2
 have hnd:ts.Nodup:=(Afw (Hm (xs:=st.env) List.nodup_nil)).filter _
 let gh':Gh:=⟨gh.G,gh.B,fun j=>gh.F (ts.getD (j-z) 0),fun j=>gh.V (ts.getD (j-z) 0),fun j=>gh.S (ts.getD (j-z) 0)⟩
 have hget0: ∀ {n t:Nat},ts[n]? =some t→ts.getD (z+n-z) 0=t:=fun {n t} h=>by
  rw[Nat.add_sub_cancel_left,List.getD_eq_getElem?_getD,h];rfl
 have hget: ∀ {n t:Nat},ts[n]? =some t→gh'.F (z+n)=gh.F t:=fun {n t} h=>by
  show gh.F (ts.getD (z+n-z) 0)=gh.F t
  rw[hget0 h]
 have hgetV: ∀ {n t:Nat},ts[n]? =some t→gh'.V (z+n)=gh.V t:=fun {n t} h=>by
  show gh.V (ts.getD (z+n-z) 0)=gh.V t
  rw[hget0 h]
 have hgetS: ∀ {n t:Nat},ts[n]? =some t→gh'.S (z+n)=gh.S t:=fun {n t} h=>by
  show gh.S (ts.getD (z+n-z) 0)=gh.S t
  rw[hget0 h]
 have hcr: ∀ {x:Cl} {v:Value},CR cx gh st x v→CR cx gh' (Xm z st) (Ai7 z ts x) v:=fun {x v} h=>by
  obtain⟨s,d,tk⟩:=x
  obtain⟨h1,h2⟩:=h
  cases tk with
  |ro=>exact⟨h1,h2⟩
  |rd=>exact⟨h1,trivial⟩
  |nil=>exact⟨h1,h2⟩
  |pin j=>exact⟨h1,h2⟩
  |elt t e cs l i d j=>
   refine⟨h1,?_⟩
   cases s<;>first|trivial|(intro _ _ e;cases e)
  |one _ _ _=>
   refine⟨h1,?_⟩
   cases s<;>first|trivial|(intro _ _ e;cases e)
  |nst _=>
   refine⟨h1,?_⟩
   cases s<;>first|trivial|(intro _ _ e;cases e)
  |prt _ _ _ _ _=>
   refine⟨h1,?_⟩
   cases s<;>first|trivial|(intro _ _ e;cases e)
  |bag t lo=>
   simp only[Ai7]
   cases hp:pos t ts with
   |none=>exact⟨h1,trivial⟩
   |some n=>
    have hn:=Ai4 hp
    refine⟨h1,List.mem_range'_1.2 ⟨by omega,by have h9:=(List.getElem?_eq_some_iff.1 hn).1;show z+n<z+ts.length;omega⟩,fun _=>?_⟩
    rw[hget hn]
    exact h2.2 (hts hn)
  |own t=>
   simp only[Ai7]
   cases hp:pos t ts with
   |none=>exact⟨h1,trivial⟩
   |some n=>
    have hn:=Ai4 hp
    refine⟨h1,List.mem_range'_1.2 ⟨by omega,by have h9:=(List.getElem?_eq_some_iff.1 hn).1;show z+n<z+ts.length;omega⟩,fun _=>?_⟩
    rw[hget hn,hgetV hn,hgetS hn]
    exact h2.2 (hts hn)
  |row t=>
   simp only[Ai7]
   cases hp:pos t ts with
   |none=>exact⟨h1,trivial⟩
   |some n=>
    have hn:=Ai4 hp
    refine⟨h1,List.mem_range'_1.2 ⟨by omega,by have h9:=(List.getElem?_eq_some_iff.1 hn).1;show z+n<z+ts.length;omega⟩,fun _=>?_⟩
    rw[hget hn,hgetV hn,hgetS hn]
    exact h2.2 (hts hn)
 have hcrs: ∀ {xs:List Cl} {vs:List Value},CRs cx gh st xs vs→CRs cx gh' (Xm z st) (xs.map (Ai7 z ts)) vs:=by
  intro xs
  induction xs with
  |nil=>intro vs h;cases vs with|nil=>trivial|cons _ _=>exact h.elim
  |cons x xs ih=>intro vs h;cases vs with|nil=>exact h.elim|cons v vs=>exact⟨hcr h.1,ih h.2⟩
 have hvv: ∀ {b:Bool} {xs:List Cl} {v:Value},VRv cx gh st b xs v→VRv cx gh' (Xm z st) b (xs.map (Ai7 z ts)) v:=fun {b xs v} h=>by
  cases b with
  |true=>obtain⟨vs,e,h⟩:=h;exact⟨vs,e,hcrs h⟩
  |false=>exact hcrs (xs:=xs) (vs:=[v]) h
 have hmem: ∀ {t:Nat},t∈(Xm z st).live→ ∃j u,t=z+j∧ts[j]? =some u:=fun {t} ht=>by
  have h1:=List.mem_range'_1.1 (show t∈List.range' z ts.length from ht)
  exact⟨t-z,_,by omega,List.getElem?_eq_getElem (show t-z<ts.length by omega)⟩
 have hbx: ∀k,(Xm z st).bx k=(st.bx k).map fun b=>b.map (Ai7 z ts):=fun k=>Tj _ st.boxes k
 have hhas: ∀k,(Xm z st).has k=st.has k:=fun k=>by unfold St.has;rw[hbx];simp
 refine⟨gh',⟨m.moved,m.lies,m.g0,m.old,?_,fun i j hi hj=>m.inj i j (by rw[←hhas];exact hi) (by rw[←hhas];exact hj),fun k o hk=>m.boxG k o (by rw[←hhas];exact hk),?_,?_,?_,?_,m.new⟩,e.1,e.2.1,fun i=>?_,e.2.2.2⟩
 ·intro k cs hk
  rw[hbx]at hk
  cases hb:st.bx k with
  |none=>rw[hb]at hk;cases hk
  |some c0=>
   rw[hb]at hk
   simp at hk;subst hk
   obtain⟨vs,e',h1,h2,h3⟩:=m.box k c0 hb
   exact⟨vs,e',h1,h2,hcrs h3⟩
 ·intro t ht
  obtain⟨j,u,rfl,hu⟩:=hmem ht
  rw[hget hu]
  exact⟨ht,(m.tok u (hts hu)).2⟩
 ·intro t u ht hu htu
  obtain⟨j,x,rfl,hx⟩:=hmem ht
  obtain⟨i,y,rfl,hy⟩:=hmem hu
  rw[hget hx,hget hy]
  refine m.apart x y (hts hx) (hts hy) (fun e=>htu ?_)
  subst e
  rw[(List.getElem?_inj (List.getElem?_eq_some_iff.1 hx).1 hnd).1 (hx.trans hy.symm)]
 ·intro t k ht hk
  obtain⟨j,u,rfl,hu⟩:=hmem ht
  rw[hget hu]
  exact m.tokBox u k (hts hu) (by rw[←hhas];exact hk)
 ·exact List.nodup_range'
 ·have:(Xm z st).get i=A5x z ts (st.get i):=Aa5 (A5x z ts) rfl st.env i
  rw[this]
  have hv:=e.2.2.1 i
  cases hg:st.get i with
  |any=>trivial
  |v b xs=>rw[hg]at hv;exact hvv hv
  |box b o=>rw[hg]at hv;exact⟨by rw[hhas];exact hv.1,hv.2⟩
  |el _ _ _=>trivial
  |tup l=>trivial
def Tok.beq:Tok→Tok→Bool
 | .ro,.ro=>true
 | .rd,.rd=>true
 | .nil,.nil=>true
 | .own t,.own u=>Nat.beq t u
 | .row t,.row u=>Nat.beq t u
 | .pin t,.pin u=>Nat.beq t u
 |_,_=>false
theorem Tok.eq_of_beq {a b:Tok} (h:Tok.beq a b=true):a=b:=by
 unfold Tok.beq at h
 split at h
 ·rfl
 ·rfl
 ·rfl
 ·rw[Nat.eq_of_beq_eq_true h]
 ·rw[Nat.eq_of_beq_eq_true h]
 ·rw[Nat.eq_of_beq_eq_true h]
 ·cases h
@[reducible] def Au3:CSk→Type→Type
 |[],R=>R
 |s::r,R=>s.1.den×Au3 r R
@[reducible] def Aq1:List (Nat×PSk)→Type→Type
 |[],R=>R
 |(_,.v _ cs)::r,R=>Au3 cs (Aq1 r R)
 |(_,.any)::r,R=>Aq1 r R
 |(_,.box _ _)::r,R=>Aq1 r R
@[reducible] def A0y:List (Nat×CSk)→Type→Type
 |[],R=>R
 |(_,cs)::r,R=>Au3 cs (A0y r R)
def mkC {R:Type}:(cs:CSk)→Au3 cs R→List Cl×R
 |[],d=>([],d)
 |s::r,d=>(⟨s.1,d.1,s.2⟩::(mkC r d.2).1,(mkC r d.2).2)
def mkE {R:Type}:(e:List (Nat×PSk))→Aq1 e R→List (Nat×PV)×R
 |[],d=>([],d)
 |(i,.v a cs)::r,d=>((i,.v a (mkC cs d).1)::(mkE r (mkC cs d).2).1,(mkE r (mkC cs d).2).2)
 |(i,.any)::r,d=>((i,.any)::(mkE (R:=R) r d).1,(mkE (R:=R) r d).2)
 |(i,.box b o)::r,d=>((i,.box b o)::(mkE (R:=R) r d).1,(mkE (R:=R) r d).2)
def mkB {R:Type}:(e:List (Nat×CSk))→A0y e R→List (Nat×List Cl)×R
 |[],d=>([],d)
 |(i,cs)::r,d=>((i,(mkC cs d).1)::(mkB r (mkC cs d).2).1,(mkB r (mkC cs d).2).2)
@[reducible] def Sk.den (k:Sk):Type:=Aq1 k.env (A0y k.boxes Unit)
def Sk.mk' (k:Sk) (d:k.den):St:=
 {env:=(mkE k.env d).1,boxes:=(mkB k.boxes (mkE k.env d).2).1,live:=k.live,used:=k.live}
def unC {R:Type} (K:Option R):(cs:CSk)→List Cl→Option (Au3 cs R)
 |[],[]=>K
 |s::r,x::xs=>ob (evS s.1 x) fun d=>chk (Tok.beq x.tok s.2) (ob (unC K r xs) fun e=>some (d,e))
 |_,_=>none
def unE {R:Type} (K:Option R):(e:List (Nat×PSk))→List (Nat×PV)→Option (Aq1 e R)
 |[],[]=>K
 |(i,.v a cs)::r,(j,.v b xs)::t=>chk (Nat.beq i j && a==b) (unC (unE K r t) cs xs)
 |(i,.any)::r,(j,.any)::t=>chk (Nat.beq i j) (unE K r t)
 |(i,.box b o)::r,(j,.box c p)::t=>chk (Nat.beq i j && Nat.beq b c && Nat.beq o p) (unE K r t)
 |_,_=>none
def unB {R:Type} (K:Option R):(e:List (Nat×CSk))→List (Nat×List Cl)→Option (A0y e R)
 |[],[]=>K
 |(i,cs)::r,(j,xs)::t=>chk (Nat.beq i j) (unC (unB K r t) cs xs)
 |_,_=>none
def A0z:List Nat→List Nat→Bool
 |[],[]=>true
 |x::r,y::t=>Nat.beq x y && A0z r t
 |_,_=>false
theorem Au4: ∀ {a b:List Nat},A0z a b=true→a=b
 |[],[],_=>rfl
 |x::r,y::t,h=>by
  simp only[A0z,Bool.and_eq_true]at h
  rw[Nat.eq_of_beq_eq_true h.1,Au4 h.2]
 |[],_::_,h=>by cases h
 |_::_,[],h=>by cases h
def Sk.un (k:Sk) (st:St):Option k.den:=
 chk (A0z k.live st.live && A0z k.live st.used) (unE (unB (some ()) k.boxes st.boxes) k.env st.env)
theorem A91 {s:Sh} {x:Cl} {d:s.den} (h:evS s x=some d):x=⟨s,d,x.tok⟩:=by
 unfold evS at h
 split at h
 ·rename_i e
  obtain⟨sh,v,t⟩:=x
  simp only at e
  subst e
  simp at h;subst h;rfl
 ·cases h
theorem Aq2 {R:Type} {K:Option R}: ∀ {cs:CSk} {xs:List Cl} {d:Au3 cs R},unC K cs xs=some d→ ∃r,K=some r∧mkC cs d=(xs,r)
 |[],[],d,h=>⟨d,h,rfl⟩
 |s::t,x::xs,d,h=>by
  simp only[unC]at h
  obtain⟨v,hv,h⟩:=Ah h
  obtain⟨ht,h⟩:=A2 h
  obtain⟨e,he,h⟩:=Ah h
  simp only[Option.some.injEq]at h
  subst h
  obtain⟨r,hr,hm⟩:=Aq2 he
  refine⟨r,hr,?_⟩
  simp only[mkC,hm]
  rw[←Tok.eq_of_beq ht,←A91 hv]
 |[],_::_,d,h=>by simp[unC]at h
 |_::_,[],d,h=>by simp[unC]at h
theorem Ai8 {R:Type} {K:Option R}: ∀ {cs:List (Nat×PSk)} {xs:List (Nat×PV)} {d:Aq1 cs R},unE K cs xs=some d→ ∃r,K=some r∧mkE cs d=(xs,r)
 |[],[],d,h=>⟨d,h,rfl⟩
 |(i,.v a cs)::t,(j,.v b xs)::ys,d,h=>by
  simp only[unE]at h
  obtain⟨hb,h⟩:=A2 h
  simp only[Bool.and_eq_true]at hb
  obtain⟨r1,h1,hm⟩:=Aq2 h
  obtain⟨r,hr,hm2⟩:=Ai8 h1
  have e1:=Nat.eq_of_beq_eq_true hb.1
  have e2:a=b:=by simpa using hb.2
  subst e1;subst e2
  exact⟨r,hr,by simp only[mkE,hm,hm2]⟩
 |(i,.any)::t,(j,.any)::ys,d,h=>by
  simp only[unE]at h
  obtain⟨hb,h⟩:=A2 h
  obtain⟨r,hr,hm2⟩:=Ai8 h
  have e1:=Nat.eq_of_beq_eq_true hb
  subst e1
  exact⟨r,hr,by simp only[mkE,hm2]⟩
 |(i,.box b o)::t,(j,.box c p)::ys,d,h=>by
  simp only[unE]at h
  obtain⟨hb,h⟩:=A2 h
  simp only[Bool.and_eq_true]at hb
  obtain⟨r,hr,hm2⟩:=Ai8 h
  have e1:=Nat.eq_of_beq_eq_true hb.1.1
  have e2:=Nat.eq_of_beq_eq_true hb.1.2
  have e3:=Nat.eq_of_beq_eq_true hb.2
  subst e1;subst e2;subst e3
  exact⟨r,hr,by simp only[mkE,hm2]⟩
 |[],_::_,d,h=>by simp[unE]at h
 |(_,.v _ _)::_,[],d,h=>by simp[unE]at h
 |(_,.v _ _)::_,(_,.any)::_,d,h=>by simp[unE]at h
 |(_,.v _ _)::_,(_,.box _ _)::_,d,h=>by simp[unE]at h
 |(_,.v _ _)::_,(_,.el _ _ _)::_,d,h=>by simp[unE]at h
 |(_,.v _ _)::_,(_,.tup _)::_,d,h=>by simp[unE]at h
 |(_,.any)::_,[],d,h=>by simp[unE]at h
 |(_,.any)::_,(_,.v _ _)::_,d,h=>by simp[unE]at h
 |(_,.any)::_,(_,.box _ _)::_,d,h=>by simp[unE]at h
 |(_,.any)::_,(_,.el _ _ _)::_,d,h=>by simp[unE]at h
 |(_,.any)::_,(_,.tup _)::_,d,h=>by simp[unE]at h
 |(_,.box _ _)::_,[],d,h=>by simp[unE]at h
 |(_,.box _ _)::_,(_,.v _ _)::_,d,h=>by simp[unE]at h
 |(_,.box _ _)::_,(_,.any)::_,d,h=>by simp[unE]at h
 |(_,.box _ _)::_,(_,.el _ _ _)::_,d,h=>by simp[unE]at h
 |(_,.box _ _)::_,(_,.tup _)::_,d,h=>by simp[unE]at h
theorem A00 {R:Type} {K:Option R}: ∀ {cs:List (Nat×CSk)} {xs:List (Nat×List Cl)} {d:A0y cs R},unB K cs xs=some d→ ∃r,K=some r∧mkB cs d=(xs,r)
 |[],[],d,h=>⟨d,h,rfl⟩
 |(i,cs)::t,(j,xs)::ys,d,h=>by
  simp only[unB]at h
  obtain⟨hb,h⟩:=A2 h
  obtain⟨r1,h1,hm⟩:=Aq2 h
  obtain⟨r,hr,hm2⟩:=A00 h1
  have e1:=Nat.eq_of_beq_eq_true hb
  subst e1
  exact⟨r,hr,by simp only[mkB,hm,hm2]⟩
 |[],_::_,d,h=>by simp[unB]at h
 |_::_,[],d,h=>by simp[unB]at h
theorem Bbf {k:Sk} {st:St} {d:k.den} (h:k.un st=some d):st=k.mk' d:=by
 unfold Sk.un at h
 obtain⟨hb,h⟩:=A2 h
 simp only[Bool.and_eq_true]at hb
 obtain⟨r1,h1,hm⟩:=Ai8 h
 obtain⟨r2,h2,hm2⟩:=A00 h1
 unfold Sk.mk'
 rw[hm,hm2]
 obtain⟨e,b,l,u⟩:=st
 have e1:=Au4 hb.1
 have e2:=Au4 hb.2
 simp only at e1 e2 ⊢
 subst e1;subst e2;rfl
def A5z (k:Sk) (z:Nat) (st:St):St:=Xm z (wk k (A0w (z+1000) (Nw (A5u (k.env.map (·.1)) st))))
theorem Amy (k:Sk) (z:Nat):Aec (A5z k z):=((((A5v (k.env.map (·.1))).comp A5w).comp (A2j (z+1000))).comp (Bbe k)).comp (A5y z)
def Sk.fit (k:Sk) (z:Nat) (st:St):Option k.den:=k.un (A5z k z st)
theorem Ai9 {k:Sk} {z:Nat} {st:St} {d:k.den} (h:k.fit z st=some d):A5z k z st=k.mk' d:=Bbf h
end
end Go.Proofs.YtmhhajdeafijmaaGreat
namespace Go.Proofs.YtmhhajdeafijmaaGreat
open Go.RowKit
set_option linter.unusedVariables false
set_option linter.unusedSectionVars false
set_option linter.unusedSimpArgs false
noncomputable section

theorem Bf.split: ∀ {cs:List Sh} {h:Ac} {d:dens cs} {c:List Value},Bf h cs d c→ ∃fs:Nat→Ac,(∀j sg,Es cs d j=some sg→ ∃u,c[j]? =some u∧A4 (fs j) sg.sh sg.val u)∧(∀j,(fs j).sub h)∧ ∀j j',j≠j'→(fs j).apart (fs j')
 |[],h,d,c,_=>⟨fun _=>Ac.emp,fun j sg hj=>by simp[Es]at hj,fun j=>Ac.emp_sub _,fun _ _ _=>Ac.apart_emp _⟩
 |s::r,h,d,c,ho=>by
  simp only[Bf]at ho
  obtain⟨v,t,g,h',rfl,hp,h1,h2⟩:=ho
  obtain⟨fs,q1,q2,q3⟩:=Bf.split h2
  have ha:g.apart h':=(List.pairwise_cons.1 hp.1).1 h' (by simp)
  refine⟨fun j=>match j with|0=>g|j+1=>fs j,?_,?_,?_⟩
  ·intro j sg hj
   cases j with
   |zero=>simp[Es]at hj;subst hj;exact⟨v,rfl,h1⟩
   |succ j=>simp only[Es]at hj;obtain⟨u,e,ho⟩:=q1 j sg hj;exact⟨u,by simpa using e,ho⟩
  ·intro j
   cases j with
   |zero=>exact hp.2 g (by simp)
   |succ j=>exact Ac.sub_trans (q2 j) (hp.2 h' (by simp))
  ·intro j j' hne
   cases j with
   |zero=>cases j' with
    |zero=>exact(hne rfl).elim
    |succ j'=>exact Ac.apart_sub ha (Ac.sub_refl _) (q2 j')
   |succ j=>cases j' with
    |zero=>exact Ac.apart_symm (Ac.apart_sub ha (Ac.sub_refl _) (q2 j))
    |succ j'=>exact q3 j j' (fun e=>hne (by rw[e]))
theorem A5h.mono {G:Az} {F:Ac} {cs:List Sh} {l:List (dens cs)} {lo lo':Nat} {v:Value} (h:A5h G F cs l lo v) (hl:lo≤lo'):A5h G F cs l lo' v:=by
 obtain⟨b,h,c,h1,h2⟩:=h
 exact⟨b,h,c,fun i d hi hd=>h1 i d (by omega) hd,fun i i' hi hi'=>h2 i i' (by omega) (by omega)⟩
def Bcz (j:Nat) (p:PV):List (Nat×PV)→List (Nat×PV)
 |[]=>[]
 |(i,q)::r=>cond (Nat.beq i j) ((i,p)::r) ((i,q)::Bcz j p r)
def Bds (j k z:Nat) (st:St):St:=match st.get j,st.get k with
 | .v false [⟨.sl e cs,l,.own t⟩],.v false [⟨.int .i64,x,_⟩]=>
  {st with env:=Bcz j (.v false [⟨.sl e cs,l,.one z (Int.toNat x) (z+cs.length)⟩]) st.env,live:=List.range' z (cs.length+1)++st.live.erase t,used:=List.range' z (cs.length+1)++st.used}
 |_,_=>st
end
end Go.Proofs.YtmhhajdeafijmaaGreat
namespace Go.Proofs.YtmhhajdeafijmaaGreat
open Go.RowKit
set_option linter.unusedVariables false
set_option linter.unusedSectionVars false
set_option linter.unusedSimpArgs false
noncomputable section

def A92:Sh→Value→Bool
 | .int k,.int j n=>decide (k=j) && decide (n=0)
 | .bool,.bool b=> !b
 | .str,.string s=>Nat.beq s.size 0
 | .sl _ _,.slice none 0 0=>true
 |_,_=>false
theorem Bbg: ∀ {s:Sh} {v:Value},A92 s v=true→v=zv s:=by
 intro s v h
 unfold A92 at h
 split at h
 ·simp at h;obtain⟨rfl,rfl⟩:=h;rfl
 ·simp at h;subst h;rfl
 ·rename_i s
  have h1:s.size=0:=Nat.eq_of_beq_eq_true h
  have:s=ByteArray.empty:=by
   cases s with|mk d=>
   have h2:d.size=0:=h1
   have:d= #[]:=Array.size_eq_zero_iff.1 h2
   subst this;rfl
  subst this;rfl
 ·rfl
 ·cases h
def Aja:List Sh→List Value→Bool
 |[],[]=>true
 |s::r,v::t=>A92 s v && Aja r t
 |_,_=>false
theorem Aq3: ∀ {s:List Sh} {v:List Value},Aja s v=true→v=s.map zv
 |[],[],_=>rfl
 |s::r,v::t,h=>by
  simp only[Aja,Bool.and_eq_true]at h
  rw[Bbg h.1,Aq3 h.2];rfl
 |[],_::_,h=>by simp[Aja]at h
 |_::_,[],h=>by simp[Aja]at h
def Aed (P:Program):List Field→List (Nat×Nat)→Bool
 |[],[]=>true
 |f::fs,(off,sz)::r=>Nat.beq f.offset off && (match P.info? f.type with|some i=>Nat.beq i.size sz && Nat.blt 0 i.size|none=>false) && Aed P fs r
 |_,_=>false
theorem A3s {P:Program}: ∀ {fs:List Field} {r:List (Nat×Nat)},Aed P fs r=true→ ∀(j off sz:Nat),r[j]? =some (off,sz)→ ∃(f:Field) (fi:TypeInfo),fs[j]? =some f∧f.offset=off∧P.info? f.type=some fi∧fi.size=sz∧0<sz
 |[],[],_,j,off,sz,h=>by simp at h
 |f::fs,(o,s)::r,h,j,off,sz,hj=>by
  simp only[Aed,Bool.and_eq_true]at h
  cases j with
  |zero=>
   simp at hj
   obtain⟨rfl,rfl⟩:=hj
   obtain⟨⟨h1,h2⟩,_⟩:=h
   cases hi:P.info? f.type with
   |none=>rw[hi]at h2;cases h2
   |some i=>
    rw[hi]at h2
    simp only[Bool.and_eq_true]at h2
    have e1:=Nat.eq_of_beq_eq_true h2.1
    have e2:0<i.size:=Nat.le_of_ble_eq_true h2.2
    exact⟨f,i,rfl,Nat.eq_of_beq_eq_true h1,hi,e1,e1▸e2⟩
  |succ j=>exact A3s h.2 j off sz (by simpa using hj)
 |[],_::_,h,_,_,_,_=>by simp[Aed]at h
 |_::_,[],h,_,_,_,_=>by simp[Aed]at h
theorem A01 {P:Program}: ∀ {fs:List Field} {r:List (Nat×Nat)},Aed P fs r=true→fs.mapM (fun f=>(P.info? f.type).map fun i=>(f.offset,i.size))=some r
 |[],[],_=>rfl
 |f::fs,(o,s)::r,h=>by
  simp only[Aed,Bool.and_eq_true]at h
  obtain⟨⟨h1,h2⟩,h3⟩:=h
  cases hi:P.info? f.type with
  |none=>rw[hi]at h2;cases h2
  |some i=>
   rw[hi]at h2
   simp only[Bool.and_eq_true]at h2
   simp[List.mapM_cons,hi,A01 h3,Nat.eq_of_beq_eq_true h1,Nat.eq_of_beq_eq_true h2.1]
 |[],_::_,h=>by simp[Aed]at h
 |_::_,[],h=>by simp[Aed]at h
def eqB (P:Program):List Field→List Sh→Nat→Bool
 |[],[],_=>true
 |f::fs,s::r,off=>(f.name != "_") && Nat.beq f.offset off && (match s,P.underlying f.type with| .int _,some (.int _)=>true| .bool,some .bool=>true|_,_=>false) && eqB P fs r (off+1)
 |_,_,_=>false
theorem A76 {P:Program}: ∀ {fs:List Field} {r:List Sh} {off:Nat},eqB P fs r off=true→Asz P fs r off
 |[],[],_,_=>trivial
 |f::fs,s::r,off,h=>by
  simp only[eqB,Bool.and_eq_true]at h
  obtain⟨⟨⟨h1,h2⟩,h3⟩,h4⟩:=h
  refine⟨by simpa using h1,Nat.eq_of_beq_eq_true h2,?_,A76 h4⟩
  split at h3
  ·rename_i k heq;exact⟨_,heq⟩
  ·rename_i heq;exact heq
  ·cases h3
 |[],_::_,_,h=>by simp[eqB]at h
 |_::_,[],_,h=>by simp[eqB]at h
def A93 (P:Program) (e:Nat) (cs:List Sh):Bool:=
 match cs with
 |[.int k]=>(match P.underlying e with|some (.int j)=>decide (k=j)|_=>false)
 |_=>true
theorem Bbh {P:Program} {e:Nat} {cs:List Sh} (h:A93 P e cs=true) (k:IntKind) (hk:cs=[.int k]):P.underlying e=some (.int k):=by
 subst hk
 simp only[A93]at h
 split at h
 ·rename_i j hj;simp at h;subst h;exact hj
 ·cases h
def A94 (P:Program) (e:Nat) (cs:List Sh):Bool:=
 match P.info? e with
 |some i=>(match i.zero with|some z=>Nat.beq z.cells.size cs.length && Aja cs z.cells.toList|none=>false) && Nat.beq i.size cs.length && Nat.blt 0 cs.length && Nat.ble i.bytes 4096 && Nat.ble cs.length 4096 && A93 P e cs
 |none=>false
theorem Bbi {P:Program} {t e:Nat} {cs:List Sh} (hu:P.underlying t=some (.slice e)) (h:A94 P e cs=true):(∃z b,RowTy P t e z cs.length b∧b≤4096∧z.cells.toList=cs.map zv)∧cs.length≤4096∧ ∀k,cs=[.int k]→P.underlying e=some (.int k):=by
 unfold A94 at h
 cases hi:P.info? e with
 |none=>rw[hi]at h;cases h
 |some i=>
  rw[hi]at h
  simp only[Bool.and_eq_true]at h
  obtain⟨⟨⟨⟨⟨h1,h2⟩,h3⟩,h4⟩,h5⟩,h6⟩:=h
  cases hz:i.zero with
  |none=>rw[hz]at h1;cases h1
  |some z=>
   rw[hz]at h1
   simp only[Bool.and_eq_true]at h1
   exact⟨⟨z,i.bytes,⟨hu,by rw[hi];simp[hz,Nat.eq_of_beq_eq_true h2],Nat.eq_of_beq_eq_true h1.1,Nat.le_of_ble_eq_true h3⟩,Nat.le_of_ble_eq_true h4,Aq3 h1.2⟩,Nat.le_of_ble_eq_true h5,Bbh h6⟩
def A02:List Field→List Nat→Bool
 |_,[]=>true
 |f::fs,u::r=>Nat.beq f.type u && A02 fs r
 |[],_::_=>false
theorem A3t: ∀ {fs:List Field} {r:List Nat},A02 fs r=true→ ∀(j u:Nat),r[j]? =some u→ ∃f:Field,fs[j]? =some f∧f.type=u
 |_,[],_,j,u,h=>by simp at h
 |f::fs,x::r,h,j,u,hj=>by
  simp only[A02,Bool.and_eq_true]at h
  cases j with
  |zero=>simp at hj;exact⟨f,rfl,(Nat.eq_of_beq_eq_true h.1).trans hj⟩
  |succ j=>exact A3t h.2 j u (by simpa using hj)
 |[],_::_,h,_,_,_=>by simp[A02]at h
def A77 (P:Program) (t:Nat) (T:Ty):Bool:=match P.underlying t with
 |some (.struct fs)=>A02 fs.toList T.fty
 |_=>T.fty.isEmpty
def A78 (P:Program) (t:Nat) (T:Ty):Bool:=
 match P.info? t,P.underlying t with
 |some i,some d=>
  Nat.beq i.size T.shs.length && (match i.zero with|some z=>Aja T.shs z.cells.toList|none=>false) && (d.isRow==T.agg) && (T.agg || Nat.beq T.shs.length 1) &&
  (match d with
   | .struct fs=>T.agg && Aed P fs.toList T.offs && (!T.eq || (!P.stoodInHeld t && !P.eqGuardType P.depth t && eqB P fs.toList T.shs 0))
   | .slice e=>T.offs.isEmpty && (match T.shs with|[.sl e' cs]=>Nat.beq e e' && A94 P e cs|_=>false)
   | .int k=>T.offs.isEmpty && (match T.shs with|[.int j]=>decide (k=j)|_=>false)
   | .bool=>T.offs.isEmpty && (match T.shs with|[.bool]=>true|_=>false)
   | .string=>T.offs.isEmpty && (match T.shs with|[.str]=>true|_=>false)
   |_=>false)
 |_,_=>false
def A50 (P:Program) (t:Nat) (T:Ty):Bool:=A77 P t T && A78 P t T
theorem Bbj {P:Program} {t:Nat} {T:Ty} (h:A50 P t T=true):TyOk P t T:=by
 unfold A50 at h
 simp only[Bool.and_eq_true]at h
 obtain⟨hft,h⟩:=h
 have hfty: ∀(j u:Nat),T.fty[j]? =some u→ ∃(fs:Array Field) (f:Field),P.underlying t=some (.struct fs)∧fs[j]? =some f∧f.type=u:=by
  unfold A77 at hft
  split at hft
  ·rename_i fs hfs
   intro j u hj
   obtain⟨f,h1,h2⟩:=A3t hft j u hj
   exact⟨fs,f,hfs,by simpa using h1,h2⟩
  ·intro j u hj
   rw[List.isEmpty_iff.1 hft]at hj
   simp at hj
 unfold A78 at h
 split at h
 ·rename_i i d hi hu
  simp only[Bool.and_eq_true]at h
  obtain⟨⟨⟨⟨h1,h2⟩,h3⟩,h4⟩,h5⟩:=h
  have hd:d.isRow=T.agg:=by simpa using h3
  have e1:=Nat.eq_of_beq_eq_true h1
  have hone:T.agg=false→T.shs.length=1:=fun ha=>by
   rw[ha]at h4;exact Nat.eq_of_beq_eq_true (by simpa using h4)
  cases hz:i.zero with
  |none=>rw[hz]at h2;cases h2
  |some z=>
   rw[hz]at h2
   have hzz:=Aq3 h2
   have hinf: ∃i z d,P.info? t=some i∧i.size=T.shs.length∧i.zero=some z∧z.cells.toList=T.shs.map zv∧P.underlying t=some d∧d.isRow=T.agg:=⟨i,z,d,hi,e1,hz,hzz,hu,hd⟩
   have nof:T.offs.isEmpty=true→(∀(j off sz:Nat),T.offs[j]? =some (off,sz)→ ∃fs f fi,P.underlying t=some (.struct fs)∧fs[j]? =some f∧f.offset=off∧P.info? f.type=some fi∧fi.size=sz∧0<sz)∧(0<T.offs.length→ ∃fs:Array Field,P.underlying t=some (.struct fs)∧fs.toList.mapM (fun f=>(P.info? f.type).map fun i=>(f.offset,i.size))=some T.offs):=fun he=>by
    rw[List.isEmpty_iff.1 he]
    exact⟨fun j off sz h=>by simp at h,fun h=>by simp at h⟩
   split at h5
   ·rename_i fs
    simp only[Bool.and_eq_true]at h5
    obtain⟨⟨ha,hf⟩,heq⟩:=h5
    have na: ∀ {p:Prop},T.agg=false→p:=fun hn=>by rw[ha]at hn;cases hn
    refine⟨hinf,fun j off sz hj=>?_,fun _=>⟨fs,hu,A01 hf⟩,fun _ _ hn=>na hn,fun _ _ hn=>na hn,fun _ _ hn=>na hn,fun _ hn=>na hn,fun hn=>na hn,fun hn=>na hn,fun _ he=>?_,hone,hfty⟩
    ·obtain⟨f,fi,q1,q2⟩:=A3s hf j off sz hj
     exact⟨fs,f,fi,hu,by simpa using q1,q2⟩
    ·rw[he]at heq
     simp only[Bool.not_true,Bool.false_or,Bool.and_eq_true,Bool.not_eq_true']at heq
     have hfs:P.fieldsOf t=fs:=by unfold Program.fieldsOf;rw[hu]
     rw[hfs]
     exact⟨hu,heq.1.1,heq.1.2,A76 heq.2⟩
   ·rename_i e
    simp only[Bool.and_eq_true]at h5
    obtain⟨ho,h5⟩:=h5
    split at h5
    ·rename_i e' cs hs
     simp only[Bool.and_eq_true]at h5
     have e2:=Nat.eq_of_beq_eq_true h5.1
     subst e2
     obtain⟨r1,r2,r3⟩:=Bbi hu h5.2
     have nag:T.agg=false:=by rw[←hd]
     refine⟨hinf,(nof ho).1,(nof ho).2,fun e' cs' _ hs'=>?_,fun e' cs' _ hs'=>?_,fun e' k _ hs'=>?_,fun k _ hs'=>?_,fun _ hs'=>?_,fun _ hs'=>?_,fun hn=>?_,hone,hfty⟩
     ·rw[hs]at hs';cases hs';exact⟨hu,r1⟩
     ·rw[hs]at hs';cases hs';exact r2
     ·rw[hs]at hs';cases hs';exact r3 _ rfl
     ·rw[hs]at hs';cases hs'
     ·rw[hs]at hs';cases hs'
     ·rw[hs]at hs';cases hs'
     ·rw[nag]at hn;cases hn
    ·cases h5
   ·rename_i k
    simp only[Bool.and_eq_true]at h5
    obtain⟨ho,h5⟩:=h5
    split at h5
    ·rename_i j hs
     have e2:k=j:=by simpa using h5
     subst e2
     have nag:T.agg=false:=by rw[←hd]
     refine⟨hinf,(nof ho).1,(nof ho).2,fun e' cs' _ hs'=>?_,fun e' cs' _ hs'=>?_,fun e' k _ hs'=>?_,fun k _ hs'=>?_,fun _ hs'=>?_,fun _ hs'=>?_,fun hn=>?_,hone,hfty⟩
     ·rw[hs]at hs';cases hs'
     ·rw[hs]at hs';cases hs'
     ·rw[hs]at hs';cases hs'
     ·rw[hs]at hs';cases hs';exact hu
     ·rw[hs]at hs';cases hs'
     ·rw[hs]at hs';cases hs'
     ·rw[nag]at hn;cases hn
    ·cases h5
   ·simp only[Bool.and_eq_true]at h5
    obtain⟨ho,h5⟩:=h5
    split at h5
    ·rename_i hs
     have nag:T.agg=false:=by rw[←hd]
     refine⟨hinf,(nof ho).1,(nof ho).2,fun e' cs' _ hs'=>?_,fun e' cs' _ hs'=>?_,fun e' k _ hs'=>?_,fun k _ hs'=>?_,fun _ hs'=>?_,fun _ hs'=>?_,fun hn=>?_,hone,hfty⟩
     ·rw[hs]at hs';cases hs'
     ·rw[hs]at hs';cases hs'
     ·rw[hs]at hs';cases hs'
     ·rw[hs]at hs';cases hs'
     ·rw[hs]at hs';cases hs'
     ·exact hu
     ·rw[nag]at hn;cases hn
    ·cases h5
   ·simp only[Bool.and_eq_true]at h5
    obtain⟨ho,h5⟩:=h5
    split at h5
    ·rename_i hs
     have nag:T.agg=false:=by rw[←hd]
     refine⟨hinf,(nof ho).1,(nof ho).2,fun e' cs' _ hs'=>?_,fun e' cs' _ hs'=>?_,fun e' k _ hs'=>?_,fun k _ hs'=>?_,fun _ hs'=>?_,fun _ hs'=>?_,fun hn=>?_,hone,hfty⟩
     ·rw[hs]at hs';cases hs'
     ·rw[hs]at hs';cases hs'
     ·rw[hs]at hs';cases hs'
     ·rw[hs]at hs';cases hs'
     ·exact hu
     ·rw[hs]at hs';cases hs'
     ·rw[nag]at hn;cases hn
    ·cases h5
   ·cases h5
 ·cases h
end
end Go.Proofs.YtmhhajdeafijmaaGreat
namespace Go.Proofs.YtmhhajdeafijmaaGreat
open Go.RowKit
set_option linter.unusedVariables false
set_option linter.unusedSectionVars false
set_option linter.unusedSimpArgs false
noncomputable section

inductive Iter {D O:Type} (B:D→Option (D⊕O)):D→O→Prop
 |more {d d':D} {o:O} (h:B d=some (.inl d')) (t:Iter B d' o):Iter B d o
 |done {d:D} {o:O} (h:B d=some (.inr o)):Iter B d o
theorem Iter.uniq {D O:Type} {B:D→Option (D⊕O)} {d:D} {o o':O} (h:Iter B d o) (k:Iter B d o'):o=o':=by
 induction h with
 |more h t ih=>
  cases k with
  |more h' t'=>rw[h]at h';cases h';exact ih t'
  |done h'=>rw[h]at h';cases h'
 |done h=>
  cases k with
  |more h' t'=>rw[h]at h';cases h'
  |done h'=>rw[h]at h';cases h';rfl
open Classical in
def Ay {D O:Type} (B:D→Option (D⊕O)) (d:D):Option O:=if h: ∃o,Iter B d o then some h.choose else none
theorem Xn {D O:Type} {B:D→Option (D⊕O)} {d:D} {o:O} (h:Ay B d=some o):Iter B d o:=by
 unfold Ay at h
 split at h
 ·rename_i hx;simp at h;subst h;exact hx.choose_spec
 ·cases h
theorem Aq4 {D O:Type} {B:D→Option (D⊕O)} {d:D} {o:O} (h:Iter B d o):Ay B d=some o:=by
 unfold Ay
 have hx: ∃o,Iter B d o:=⟨o,h⟩
 rw[dif_pos hx,hx.choose_spec.uniq h]
theorem Ci {D O:Type} (B:D→Option (D⊕O)) (d:D):Ay B d=match B d with|none=>none|some (.inl d')=>Ay B d'|some (.inr o)=>some o:=by
 cases hb:B d with
 |none=>
  cases h:Ay B d with
  |none=>rfl
  |some o=>
   have:=Xn h
   cases this with
   |more h' _=>rw[hb]at h';cases h'
   |done h'=>rw[hb]at h';cases h'
 |some x=>
  cases x with
  |inr o=>exact Aq4 (.done hb)
  |inl d'=>
   simp only
   cases h:Ay B d' with
   |some o=>exact Aq4 (.more hb (Xn h))
   |none=>
    cases h2:Ay B d with
    |none=>rfl
    |some o=>
     have:=Xn h2
     cases this with
     |more h' t=>rw[hb]at h';cases h';rw[Aq4 t]at h;cases h
     |done h'=>rw[hb]at h';cases h'
def Ex.beq:Ex→Ex→Bool
 | .normal,.normal=>true
 | .exit i,.exit j=>Nat.beq i j
 | .ret,.ret=>true
 |_,_=>false
theorem Ex.eq_of_beq {a b:Ex} (h:Ex.beq a b=true):a=b:=by
 unfold Ex.beq at h
 split at h
 ·rfl
 ·rw[Nat.eq_of_beq_eq_true h]
 ·rfl
 ·cases h
@[reducible] def Xw:List (Ex×Sk)→Type
 |[]=>Unit
 |[x]=>x.2.den
 |x::y::r=>x.2.den⊕Xw (y::r)
def Aq5 (z:Nat):(xs:List (Ex×Sk))→Ex→St→Option (Xw xs)
 |[],_,_=>none
 |[x],e,s=>cond (Ex.beq x.1 e) (x.2.fit z s) none
 |x::y::r,e,s=>cond (Ex.beq x.1 e) (ob (x.2.fit z s) fun d=>some (.inl d)) (ob (Aq5 z (y::r) e s) fun d=>some (.inr d))
def Aa9:(xs:List (Ex×Sk))→Xw xs→Tree (Ex×St)
 |[],_=>.fail
 |[x],d=>.leaf (x.1,x.2.mk' d)
 |x::y::r,o=>.sm o (fun d=>.leaf (x.1,x.2.mk' d)) fun o'=>Aa9 (y::r) o'
theorem Ao9 {z:Nat} {e e':Ex} {s st':St}: ∀ {xs:List (Ex×Sk)} {o:Xw xs},Aq5 z xs e s=some o→(Aa9 xs o).val=some (e',st')→e'=e∧ ∃k,st'=A5z k z s
 |[],o,h,_=>by cases h
 |[x],o,h,k=>by
  simp only[Aq5]at h
  cases hb:Ex.beq x.1 e with
  |false=>rw[hb]at h;cases h
  |true=>
   rw[hb]at h
   have hf:x.2.fit z s=some o:=h
   simp[Aa9,Tree.val,Tree.run]at k
   obtain⟨rfl,rfl⟩:=k
   exact⟨Ex.eq_of_beq hb,x.2,(Ai9 hf).symm⟩
 |x::y::r,o,h,k=>by
  simp only[Aq5]at h
  cases hb:Ex.beq x.1 e with
  |false=>
   rw[hb]at h
   obtain⟨o',ho',h⟩:=Ah (show ob (Aq5 z (y::r) e s) (fun d=>some (Sum.inr d))=some o from h)
   simp at h;subst h
   exact Ao9 ho' k
  |true=>
   rw[hb]at h
   obtain⟨d,hd,h⟩:=Ah (show ob (x.2.fit z s) (fun d=>some (Sum.inl d))=some o from h)
   simp at h;subst h
   simp[Aa9,Tree.val,Tree.run,sm]at k
   obtain⟨rfl,rfl⟩:=k
   exact⟨Ex.eq_of_beq hb,x.2,(Ai9 hd).symm⟩
def bod (g:Cfg) (np nt:Nat) (Λ:H2) (body:Code) (sk:Sk) (z:Nat) (xs:List (Ex×Sk)) (d:sk.den):Option (sk.den⊕Xw xs):=
 pex g np nt Λ body (sk.mk' d) fun e s=>match e with
  | .normal=>ob (sk.fit z s) fun d'=>some (.inl d')
  |e=>ob (Aq5 z xs e s) fun o=>some (.inr o)
def lam (sk:Sk) (z:Nat) (xs:List (Ex×Sk)) (B:sk.den→Option (sk.den⊕Xw xs)) (st:St):Tree (Ex×St):=
 match sk.fit z st with
 |some d=>.ob (Ay B d) fun o=>Aa9 xs o
 |none=>.fail
theorem Bbk {P:Program} {g:Cfg} (hC:CfgOk P g) {cx:Cx} {np nt:Nat} (hpin:cx.pin.length≤np) {Λ:H2} {body:Code} (hL: ∀b,b∈Bu body→Fs P cx nt Λ b) {sk:Sk} {z:Nat} {xs:List (Ex×Sk)} {B:sk.den→Option (sk.den⊕Xw xs)}
  (hB: ∀d r,B d=some r→bod g np nt Λ body sk z xs d=some r) {d:sk.den} {o:Xw xs} (h:Iter B d o):
  ∀ {gh:Gh} {a:Act} {w:World},RM cx gh (sk.mk' d) w→Env nt cx gh (sk.mk' d) a→ ∀(e':Ex) (st':St),(Aa9 xs o).val=some (e',st')→ ∀(b:Frame) (k:List Item) (cs:List Frame),
   ∃ex a' w',(∃gh',RM cx gh' st' w'∧Env nt cx gh' st' a'∧ex=e'.out)∧Arrives P (lone (b.at a (.code body:: .inLoop body::k)) cs w) b k cs ex a' w':=by
 induction h with
 | @more d d' o h t ih=>
  intro gh a w hM hE e' st' hs b k cs
  have hw:=Aa6 hC hpin (Q:=fun ex a' w'=>ex= .normal∧ ∃gh',RM cx gh' (sk.mk' d') w'∧Env nt cx gh' (sk.mk' d') a') hM hE (hB _ _ h) hL (fun e gh' st' a' w' m en hr=>by
   cases e with
   |normal=>
    obtain⟨x,hx,hr⟩:=Ah hr
    simp only[Option.some.injEq,Sum.inl.injEq]at hr
    subst hr
    refine⟨rfl,?_⟩
    rw[←Ai9 hx]
    exact Amy sk z _ _ _ _ _ _ m en
   |exit i=>obtain⟨x,hx,hr⟩:=Ah hr;simp at hr
   |ret=>obtain⟨x,hx,hr⟩:=Ah hr;simp at hr)
  obtain⟨ex,a1,w1,⟨rfl,gh1,m1,e1⟩,harr⟩:=hw b (.inLoop body::k) cs
  obtain⟨ex2,a2,w2,hq,harr2⟩:=ih m1 e1 e' st' hs b k cs
  exact⟨ex2,a2,w2,hq,.of_steps (Steps.trans harr (.one step_inLoop)) harr2⟩
 | @done d o h=>
  intro gh a w hM hE e' st' hs b k cs
  have fin: ∀ {e:Ex} {gh':Gh} {st1:St} {a':Act} {w':World},RM cx gh' st1 w'→Env nt cx gh' st1 a'→ob (Aq5 z xs e st1) (fun o=>some (Sum.inr (α:=sk.den) o))=some (.inr o)→e'=e∧ ∃gh2,RM cx gh2 st' w'∧Env nt cx gh2 st' a':=fun {e gh' st1 a' w'} m en hr=>by
   obtain⟨x,hx,hr⟩:=Ah hr
   simp only[Option.some.injEq,Sum.inr.injEq]at hr
   subst hr
   obtain⟨he,kk,hk⟩:=Ao9 hx hs
   refine⟨he,?_⟩
   rw[hk]
   exact Amy kk z _ _ _ _ _ _ m en
  have hw:=Aa6 hC hpin (Q:=fun ex a' w'=>ex=e'.out∧e'≠ .normal∧ ∃gh',RM cx gh' st' w'∧Env nt cx gh' st' a') hM hE (hB _ _ h) hL (fun e gh' st1 a' w' m en hr=>by
   cases e with
   |normal=>obtain⟨x,hx,hr⟩:=Ah hr;simp at hr
   |exit i=>obtain⟨rfl,h2⟩:=fin m en hr;exact⟨rfl,by simp,h2⟩
   |ret=>obtain⟨rfl,h2⟩:=fin m en hr;exact⟨rfl,by simp,h2⟩)
  obtain⟨ex,a1,w1,⟨rfl,hne,gh1,m1,e1⟩,harr⟩:=hw b (.inLoop body::k) cs
  refine⟨e'.out,a1,w1,⟨gh1,m1,e1,rfl⟩,?_⟩
  cases e' with
  |normal=>exact(hne rfl).elim
  |exit i=>exact .pass (x:=.inLoop body) rfl (fun _ _=>.inl (by simp[Ex.out])) harr
  |ret=>exact .pass (x:=.inLoop body) rfl (fun _ _=>.inl (by simp[Ex.out])) harr
theorem Hb {P:Program} {g:Cfg} (hC:CfgOk P g) {cx:Cx} {np nt:Nat} (hpin:cx.pin.length≤np) {Λ:H2} {body:Code} (hL: ∀b,b∈Bu body→Fs P cx nt Λ b) {sk:Sk} {z:Nat} {xs:List (Ex×Sk)} {B:sk.den→Option (sk.den⊕Xw xs)}
  (hΛ:Λ (Kz body)=lam sk z xs B) (hB: ∀d,bod g np nt Λ body sk z xs d=B d):Fs P cx nt Λ body:=by
 intro st e st' gh a w hv hm he b k cs
 rw[hΛ]at hv
 unfold lam at hv
 split at hv
 ·rename_i d hd
  cases ho:Ay B d with
  |none=>rw[ho]at hv;cases hv
  |some o=>
   rw[ho]at hv
   have hs:(Aa9 xs o).val=some (e,st'):=hv
   obtain⟨gh1,m1,e1⟩:=Amy sk z cx gh st a w nt hm he
   rw[Ai9 hd]at m1 e1
   obtain⟨ex,a',w',hq,harr⟩:=Bbk hC hpin hL (fun d r h=>(hB d).trans h) (Xn ho) m1 e1 e st' hs b k cs
   exact⟨ex,a',w',hq,.of_steps (.one step_loop) harr⟩
 ·cases hv
@[reducible] def Nx:List (Bool×List Sh)→Type
 |[]=>Unit
 |p::r=>dens p.2×Nx r
def sgs:(cs:List Sh)→dens cs→List Sg
 |[],_=>[]
 |s::r,d=>⟨s,d.1⟩::sgs r d.2
def rv (p:Bool×List Sh) (d:dens p.2):RV:=(p.1,sgs p.2 d)
def mkA:(ps:List (Bool×List Sh))→Nx ps→List RV
 |[],_=>[]
 |p::r,d=>rv p d.1::mkA r d.2
def Au5 (s:Sh) (x:Sg):Option s.den:=if h:x.sh=s then some (h▸x.val)else none
def unS:(cs:List Sh)→List Sg→Option (dens cs)
 |[],[]=>some ()
 |s::r,x::xs=>ob (Au5 s x) fun d=>ob (unS r xs) fun e=>some (d,e)
 |_,_=>none
def unA:(ps:List (Bool×List Sh))→List RV→Option (Nx ps)
 |[],[]=>some ()
 |p::r,x::xs=>chk (p.1==x.1) (ob (unS p.2 x.2) fun d=>ob (unA r xs) fun e=>some (d,e))
 |_,_=>none
theorem A79 {s:Sh} {x:Sg} {d:s.den} (h:Au5 s x=some d):x=⟨s,d⟩:=by
 unfold Au5 at h
 split at h
 ·rename_i e
  obtain⟨sh,v⟩:=x
  simp only at e
  subst e
  simp at h;subst h;rfl
 ·cases h
theorem A03: ∀ {cs:List Sh} {xs:List Sg} {d:dens cs},unS cs xs=some d→xs=sgs cs d
 |[],[],d,h=>rfl
 |s::r,x::xs,d,h=>by
  simp only[unS]at h
  obtain⟨v,hv,h⟩:=Ah h
  obtain⟨e,he,h⟩:=Ah h
  simp only[Option.some.injEq]at h
  subst h
  rw[A79 hv,A03 he];rfl
 |[],_::_,d,h=>by simp[unS]at h
 |_::_,[],d,h=>by simp[unS]at h
theorem A04: ∀ {ps:List (Bool×List Sh)} {xs:List RV} {d:Nx ps},unA ps xs=some d→xs=mkA ps d
 |[],[],d,h=>rfl
 |p::r,x::xs,d,h=>by
  simp only[unA]at h
  obtain⟨hb,h⟩:=A2 h
  obtain⟨v,hv,h⟩:=Ah h
  obtain⟨e,he,h⟩:=Ah h
  simp only[Option.some.injEq]at h
  subst h
  obtain⟨b,ys⟩:=x
  have hb:p.1=b:=by simpa using hb
  subst hb
  have h1:=A03 hv
  simp only at h1
  subst h1
  rw[A04 he];rfl
 |[],_::_,d,h=>by simp[unA]at h
 |_::_,[],d,h=>by simp[unA]at h
def Au (ps:List (Bool×List Sh)) {R:Type} (V:Nx ps→Option R) (rvs:R→List RV×List RV):Av:=fun as=>match unA ps as with
 |some d=>.ob (V d) fun r=>.leaf (rvs r)
 |none=>.fail
theorem Ayj {ps:List (Bool×List Sh)} {R:Type} {V:Nx ps→Option R} {rvs:R→List RV×List RV} {as:List RV} {r:List RV×List RV} (h:(Au ps V rvs as).val=some r): ∃d x,as=mkA ps d∧V d=some x∧rvs x=r:=by
 unfold Au at h
 split at h
 ·rename_i d hd
  cases hv:V d with
  |none=>rw[hv]at h;cases h
  |some x=>rw[hv]at h;exact⟨d,x,A04 hd,hv,by simpa [Tree.val,Tree.run,ob] using h⟩
 ·cases h
theorem Bbl {α ρ:Type} (t:Tree α) (k:α→Option ρ):t.run k=ob t.val k:=by
 unfold Tree.val
 rw[Nh];rfl
structure Fn (P:Program) (f:FuncId) (kd:Kind) (F:Av):Prop where
 does:A5j P f kd F
 fn: ∃X,P.funcs[f]? =some X∧(X.name== "runtime.NumGoroutine")=false∧X.body.isSome=true
theorem Wy {P:Program} {g:Cfg} (hC:CfgOk P g) {np:Nat} {Λ:H2} {f:FuncId} {fn:Func} {kd:Kind} (hf:P.funcs[f]? =some fn) (hn:(fn.name== "runtime.NumGoroutine")=false) (hb:fn.body.isSome=true)
  (hL: ∀cx b,cx.pin.length≤np→b∈Bu (fn.body.getD .skip)→Fs P cx fn.ntmps Λ b) {ps:List (Bool×List Sh)} {R:Type} {T:Nx ps→Tree R} {rvs:R→List RV×List RV}
  (h: ∀d,Iu g np Λ fn kd (mkA ps d)=(T d).run fun r=>some (rvs r)):Fn P f kd (Au ps (fun d=>(T d).val) rvs):=
 ⟨A90 hC hf hL (fun as res hv=>by
  obtain⟨d,x,rfl,h1,h2⟩:=Ayj hv
  rw[h d,Bbl,h1]
  show some (rvs x)=some res
  rw[h2]),fn,hf,hn,hb⟩
abbrev Fns:=List (Nat×Kind×Av)
def Rs:Fns→Ctr
 |[],_,_=>.fail
 |(j,_,F)::r,f,vs=>cond (Nat.beq f j) (F vs) (Rs r f vs)
def Oq:Fns→Nat→Kind
 |[],_=>.plain
 |(j,k,_)::r,f=>cond (Nat.beq f j) k (Oq r f)
def Nk (P:Program):Fns→Prop
 |[]=>True
 |(f,k,F)::r=>Fn P f k F∧Nk P r
theorem Aq6 {P:Program}: ∀ {l:Fns},Nk P l→ ∀f,A5j P f (Oq l f) (Rs l f)∧ ∀vs r,(Rs l f vs).val=some r→ ∃X,P.funcs[f]? =some X∧(X.name== "runtime.NumGoroutine")=false∧X.body.isSome=true
 |[],_,f=>⟨(fun as res vals w G h=>by cases (show(none:Option (List RV×List RV))=some res from h)),(fun vs r h=>by cases (show(none:Option (List RV×List RV))=some r from h))⟩
 |(j,k,F)::l,h,f=>by
  have ih:=Aq6 h.2 f
  cases hb:Nat.beq f j with
  |true=>
   have e:=Nat.eq_of_beq_eq_true hb
   subst e
   have hc:Rs ((f,k,F)::l) f=F:=funext fun vs=>by simp[Rs]
   have hk:Oq ((f,k,F)::l) f=k:=by simp[Oq]
   rw[hc,hk]
   exact⟨h.1.does,fun vs r hv=>h.1.fn⟩
  |false=>
   have hc:Rs ((j,k,F)::l) f=Rs l f:=funext fun vs=>by simp[Rs,hb]
   have hk:Oq ((j,k,F)::l) f=Oq l f:=by simp[Oq,hb]
   rw[hc,hk]
   exact ih
def Aq8:List (Nat×Ty)→Nat→Option Ty
 |[],_=>none
 |(j,T)::r,t=>cond (Nat.beq t j) (some T) (Aq8 r t)
def A3w (P:Program) (l:List (Nat×Ty)):Bool:=l.all fun p=>A50 P p.1 p.2
theorem A05 {P:Program}: ∀ {l:List (Nat×Ty)},A3w P l=true→ ∀ {t T},Aq8 l t=some T→TyOk P t T
 |[],_,t,T,h=>by cases h
 |(j,X)::l,hb,t,T,h=>by
  simp only[A3w,List.all_cons,Bool.and_eq_true]at hb
  simp only[Aq8]at h
  cases hj:Nat.beq t j with
  |true=>
   rw[hj]at h
   simp at h;subst h
   rw[Nat.eq_of_beq_eq_true hj]
   exact Bbj hb.1
  |false=>
   rw[hj]at h
   exact A05 (l:=l) hb.2 h
theorem Ik {P:Program} {tys:List (Nat×Ty)} {l:Fns} {i b:Nat} (hm:P.follows .mixedOrders=true) (ht:A3w P tys=true) (hl:Nk P l):CfgOk P ⟨Aq8 tys,Rs l,Oq l,i,b⟩:=
 ⟨hm,fun t T h=>A05 ht h,fun f=>(Aq6 hl f).1,fun f vs r h=>(Aq6 hl f).2 vs r h⟩
end
end Go.Proofs.YtmhhajdeafijmaaGreat
namespace Go.Proofs.YtmhhajdeafijmaaGreat
open Go.RowKit
set_option linter.unusedVariables false
set_option linter.unusedSectionVars false
set_option linter.unusedSimpArgs false
noncomputable section

open Classical in
end
end Go.Proofs.YtmhhajdeafijmaaGreat
namespace Go.Proofs.YtmhhajdeafijmaaGreat
open Go.RowKit
set_option linter.unusedVariables false
noncomputable section
def Bq (l:List Nat):ByteArray:=⟨(l.map UInt8.ofNat).toArray⟩
def Aq7:Code→List Code
 | .seq a b=>Aq7 a++Aq7 b
 | .cond _ a b=>Aq7 a++Aq7 b
 | .block _ a=>Aq7 a
 | .loop a=>a::Aq7 a
 |_=>[]
def Bc (fn:Func) (i:Nat):Code:=(Aq7 (fn.body.getD .skip)).getD i .skip
def Bc0 {α:Type} (p:α→Prop):List α→Prop
 |[]=>True
 |a::r=>p a∧Bc0 p r
theorem En {α:Type} {p:α→Prop} {l l':List α} (e:l=l') (h:Bc0 p l'): ∀b,b∈l→p b:=by
 subst e
 induction l with
 |nil=>intro b hb;cases hb
 |cons a r ih=>
  intro b hb
  rcases List.mem_cons.1 hb with rfl|hb
  ·exact h.1
  ·exact ih h.2 b hb
end
end Go.Proofs.YtmhhajdeafijmaaGreat
namespace Go.Proofs.YtmhhajdeafijmaaGreat
open Go.ChangeShapes Go.WideShapes Go.ChangeAt Go.RowKit
set_option linter.unusedVariables false
noncomputable section

def RcD (G:Az):(cs:List Sh)→dens cs→List Value→Prop
 |[],_,vs=>vs=[]
 |s::r,d,vs=>∃v t,vs=v::t∧RdD G s d.1 v∧RcD G r d.2 t
theorem RcD.len {G:Az}: ∀ {cs:List Sh} {d:dens cs} {vs:List Value},RcD G cs d vs→vs.length=cs.length
 |[],_,_,h=>by simp only[RcD]at h;simp[h]
 |s::r,d,vs,h=>by
  simp only[RcD]at h
  obtain⟨v,t,rfl,_,h2⟩:=h
  simp[RcD.len h2]
theorem RcD.app {G:Az}: ∀ {a b:List Sh} {d:dens a} {e:dens b} {xs ys:List Value},RcD G a d xs→RcD G b e ys→ ∃f:dens (a++b),RcD G (a++b) f (xs++ys)
 |[],b,d,e,xs,ys,h,k=>by
  simp only[RcD]at h
  subst h
  exact⟨e,k⟩
 |s::r,b,d,e,xs,ys,h,k=>by
  simp only[RcD]at h
  obtain⟨v,t,rfl,h1,h2⟩:=h
  obtain⟨f,hf⟩:=RcD.app h2 k
  exact⟨((d.1,f):s.den×dens (r++b)),by simp only[List.cons_append,RcD];exact⟨v,_,rfl,h1,hf⟩⟩
theorem RcD.at {G:Az}: ∀ {cs:List Sh} {d:dens cs} {vs:List Value} {b o:Nat},RcD G cs d vs→(∀(j:Nat) (v:Value),vs[j]? =some v→G b (o+j)=some v)→Di G cs d b o
 |[],_,_,_,_,_,_=>by simp only[Di]
 |s::r,d,vs,b,o,h,k=>by
  simp only[RcD]at h
  obtain⟨v,t,rfl,h1,h2⟩:=h
  simp only[Di]
  refine⟨⟨v,by simpa using k 0 v rfl,h1⟩,RcD.at h2 (fun j x hj=>?_)⟩
  have:=k (j+1) x (by simpa using hj)
  rw[show o+1+j=o+(j+1) by omega];exact this
theorem RcD.rvs {G:Az}: ∀ {cs:List Sh} {d:dens cs} {vs:List Value},RcD G cs d vs→RVs G (sgs cs d) vs
 |[],_,_,h=>by simp only[RcD]at h;subst h;trivial
 |s::r,d,vs,h=>by
  simp only[RcD]at h
  obtain⟨v,t,rfl,h1,h2⟩:=h
  exact⟨h1,RcD.rvs h2⟩
def OpT (P:Program) (t:TypeId) (cs:List Sh):Prop:=
 ∀(H:Type) (enc:TypeId×Value→H) (w:World) (base:Nat) (sp:Nat→Bool) (held:Bool) (fuel:Nat) (vs:List Value) (x:DataW H×List MemPlace),
  DataW.trod enc P w base sp held fuel t vs=some x→ ∃d:dens cs,RcD (Cj (Nu w)) cs d vs
theorem Bbm {P:Program} {t:TypeId} {k:IntKind} (ht:P.underlying t=some (.int k)):OpT P t [.int k]:=by
 intro H enc w base sp held fuel vs x h
 obtain⟨n,h1,_,h2⟩:=DataW.trod_int ht h
 exact⟨((n,()):Int×Unit),by simp only[RcD,RdD];exact⟨_,_,h1,⟨rfl,h2⟩,rfl⟩⟩
theorem A95 {P:Program} {t:TypeId} (ht:P.underlying t=some .bool):OpT P t [.bool]:=by
 intro H enc w base sp held fuel vs x h
 obtain⟨n,h1,_⟩:=DataW.trod_bool ht h
 exact⟨((n,()):Bool×Unit),by simp only[RcD,RdD];exact⟨_,_,h1,rfl,rfl⟩⟩
theorem Bbn {P:Program} {t:TypeId} (ht:P.underlying t=some .string):OpT P t [.str]:=by
 intro H enc w base sp held fuel vs x h
 obtain⟨n,h1,_⟩:=DataW.trod_string ht h
 exact⟨((n,()):ByteArray×Unit),by simp only[RcD,RdD];exact⟨_,_,h1,rfl,rfl⟩⟩
theorem A8a {P:Program} {t e:TypeId} {cs:List Sh} (ht:P.underlying t=some (.slice e)) (hc:P.cellsOf e=cs.length) (h0:0<cs.length) (he:OpT P e cs):OpT P t [.sl e cs]:=by
 intro H enc w base sp held fuel vs x h
 have he':A5b P e (fun f vs (d:dens cs)=>RcD (Cj f) cs d vs):=he
 obtain⟨l,p,c,rfl,css,⟨a,cap,e1,h1,h2,h3⟩,hl,hel⟩:=A2e ht hc h0 he' H enc w base sp held fuel vs x h
 cases e1
 refine⟨((l,()):List (dens cs)×Unit),?_⟩
 simp only[RcD,RdD]
 have hlen: ∀c∈css,c.length=cs.length:=fun c hc=>by
  obtain⟨i,hi⟩:=List.getElem?_of_mem hc
  have hlt:i<l.length:=by rw[←hl];exact(List.getElem?_eq_some_iff.1 hi).1
  exact(hel i c _ hi (List.getElem?_eq_getElem hlt)).1
 refine⟨_,_,rfl,⟨p,c,rfl,h1,h2,fun ha=>by subst ha;exact h3.1,fun i d hd=>?_⟩,rfl⟩
 have hi:i<css.length:=by rw[hl];exact(List.getElem?_eq_some_iff.1 hd).1
 have hci:css[i]? =some css[i]:=List.getElem?_eq_getElem hi
 obtain⟨k1,k2⟩:=hel i _ d hci hd
 cases p with
 |none=>
  obtain⟨_,hn⟩:=h3
  have hm:css[i]∈css:=List.getElem_mem hi
  have:css[i]=[]:=by
   have:=List.flatten_eq_nil_iff.1 hn _ hm
   exact this
  rw[this]at k1
  simp at k1;omega
 |some ad=>
  have hcell: ∀(j:Nat) (v:Value),css[i][j]? =some v→ad.spot=none∧Cj (Nu w) ad.block (ad.off+i*cs.length+j)=some v:=fun j v hv=>by
   have hj:j<cs.length:=by rw[←k1];exact(List.getElem?_eq_some_iff.1 hv).1
   have hg:=Fh hlen hci hj
   have:=h3 (i*cs.length+j) v (hg.trans hv)
   exact⟨this.1,by unfold Cj;rw[Nat.add_assoc];exact this.2⟩
  have hs:=(hcell 0 _ (List.getElem?_eq_getElem (by rw[k1];exact h0))).1
  refine⟨ad.block,ad.off,?_,RcD.at k2 (fun j v hv=>(hcell j v hv).2)⟩
  cases ad
  simp only at hs
  subst hs;rfl
def A06 (P:Program) (f:TypeId→Option (List Sh)):List Field→Nat→Option (List Sh)
 |[],_=>some []
 |fd::r,off=>if fd.offset=off then match f fd.type with
  |some cs=>if P.cellsOf fd.type=cs.length then(match A06 P f r (off+cs.length)with|some ds=>some (cs++ds)|none=>none)else none
  |none=>none else none
def Au6 (P:Program):Nat→TypeId→Option (List Sh)
 |0,_=>none
 |n+1,t=>match P.underlying t with
  |some (.int k)=>some [.int k]
  |some .bool=>some [.bool]
  |some .string=>some [.str]
  |some (.slice e)=>match Au6 P n e with
   |some cs=>if P.cellsOf e=cs.length∧0<cs.length then some [.sl e cs]else none
   |none=>none
  |some (.struct fs)=>match A06 P (Au6 P n) fs.toList 0 with
   |some cs=>if P.cellsOf t=cs.length then some cs else none
   |none=>none
  |_=>none
theorem A3u {P:Program} {f:TypeId→Option (List Sh)} (hf: ∀t cs,f t=some cs→OpT P t cs) {H:Type} {enc:TypeId×Value→H} {w:World} {base:Nat} {sp:Nat→Bool} {held:Bool} {n:Nat} {vs:List Value}:
  ∀ {fs:List Field} {off:Nat} {cs:List Sh},A06 P f fs off=some cs→off+cs.length≤vs.length→(∀fd,fd∈fs→ ∃x,DataW.trod enc P w base sp held n fd.type ((vs.drop fd.offset).take (P.cellsOf fd.type))=some x)→
   ∃d:dens cs,RcD (Cj (Nu w)) cs d ((vs.drop off).take cs.length)
 |[],off,cs,h,hl,ht=>by
  simp only[A06]at h
  cases h
  exact⟨(),by simp[RcD]⟩
 |fd::r,off,cs,h,hl,ht=>by
  simp only[A06]at h
  split at h
  ·rename_i ho
   split at h
   ·rename_i c1 hc1
    split at h
    ·rename_i hcell
     split at h
     ·rename_i ds hds
      cases h
      simp only[List.length_append]at hl ⊢
      obtain⟨x,hx⟩:=ht fd (by simp)
      rw[ho,hcell]at hx
      obtain⟨d1,r1⟩:=hf _ _ hc1 _ _ _ _ _ _ _ _ _ hx
      obtain⟨d2,r2⟩:=A3u hf hds (by omega) (fun fd' h'=>ht fd' (by simp[h']))
      obtain⟨d,rd⟩:=RcD.app r1 r2
      refine⟨d,?_⟩
      rw[List.take_add,List.drop_drop]
      exact rd
     ·cases h
    ·cases h
   ·cases h
  ·cases h
theorem Au7 {P:Program}: ∀ {n:Nat} {t:TypeId} {cs:List Sh},Au6 P n t=some cs→OpT P t cs
 |0,t,cs,h=>by cases h
 |n+1,t,cs,h=>by
  simp only[Au6]at h
  split at h
  ·rename_i k hk;cases h;exact Bbm hk
  ·rename_i hk;cases h;exact A95 hk
  ·rename_i hk;cases h;exact Bbn hk
  ·rename_i e hk
   split at h
   ·rename_i c hc
    split at h
    ·rename_i hh;cases h;exact A8a hk hh.1 hh.2 (Au7 hc)
    ·cases h
   ·cases h
  ·rename_i fs hk
   split at h
   ·rename_i c hc
    split at h
    ·rename_i hh
     cases h
     intro H enc w base sp held fuel vs x hx
     obtain⟨xs,m,_,_,hl,hlen,hf⟩:=DataW.trod_struct hk hx
     have hle:0+cs.length≤vs.length:=by omega
     obtain⟨d,hd⟩:=A3u (fun t cs h=>Au7 h) (enc:=enc) (w:=w) (base:=base) (sp:=sp) (held:=held) (n:=m) (vs:=vs) hc hle (fun fd hfd=>by
      obtain⟨i,hi⟩:=List.getElem?_of_mem hfd
      have hi':fs[i]? =some fd:=by simpa using hi
      have h2:=hf i fd hi'
      have hlt:i<xs.length:=by rw[hlen];exact(Array.getElem?_eq_some_iff.1 hi').1
      rw[List.getElem?_eq_getElem hlt]at h2
      exact⟨_,h2⟩)
     refine⟨d,?_⟩
     have:(vs.drop 0).take cs.length=vs:=by
      have hle2:vs.length≤cs.length:=by omega
      rw[List.drop_zero,List.take_of_length_le hle2]
     rw[this]at hd
     exact hd
    ·cases h
   ·cases h
  ·cases h
def Bc1 (P:Program) (t:TypeId) (p:Bool×List Sh):Bool:=
 (match Au6 P 12 t with|some cs=>Sh.beqs cs p.2|none=>false) && (match P.underlying t with
  |some (.struct _)=>p.1
  |some (.slice _)=> !p.1
  |some (.int _)=> !p.1
  |some .bool=> !p.1
  |_=>false)
theorem Bci {P:Program} {t:TypeId} {p:Bool×List Sh} (hb:Bc1 P t p=true) {H:Type} {enc:TypeId×Value→H} {w:World} {base b0:Nat} {r:Reach} {sp:Nat→Bool} {held:Bool} {v:Value} {dd:DataW H} {pl:List MemPlace}
  (hval:Value.okWide P w r b0 t v) (ht:DataW.Trod enc P w base sp held t v dd pl): ∃d:dens p.2,RVv (Cj (Nu w)) (rv p d) v:=by
 unfold Bc1 at hb
 rw[Bool.and_eq_true]at hb
 obtain⟨h1,h2⟩:=hb
 cases hs:Au6 P 12 t with
 |none=>rw[hs]at h1;cases h1
 |some cs=>
  rw[hs]at h1
  have e:=Sh.eq_of_beqs _ _ h1
  subst e
  obtain⟨fu,hf⟩:=ht
  obtain⟨d,hd⟩:=Au7 hs _ _ _ _ _ _ _ _ _ hf
  refine⟨d,?_⟩
  have one:v.cells.toList=[v]→p.1=false→RVv (Cj (Nu w)) (rv p d) v:=fun hc hp=>by
   unfold RVv rv
   rw[hp]
   rw[hc]at hd
   exact hd.rvs
  split at h2
  ·rename_i fs hk
   obtain⟨c,rfl,_⟩:=okWide_struct hk hval
   unfold RVv rv
   rw[h2]
   exact⟨c.toList,by simp,hd.rvs⟩
  ·rename_i e hk
   obtain⟨z,len,cap,rfl⟩:=okWide_slice hk hval
   exact one rfl (by simpa using h2)
  ·rename_i k hk
   obtain⟨n,rfl⟩:=okWide_int hk hval
   exact one rfl (by simpa using h2)
  ·rename_i hk
   obtain⟨n,rfl⟩:=okWide_bool hk hval
   exact one rfl (by simpa using h2)
  ·cases h2
theorem A3v: ∀(cs:List Sh) (d:dens cs),unS cs (sgs cs d)=some d
 |[],_=>rfl
 |s::r,d=>by
  have h1:Au5 s ⟨s,d.1⟩=some d.1:=by unfold Au5;rw[dif_pos rfl]
  have h2:=A3v r d.2
  show ob (Au5 s ⟨s,d.1⟩) (fun x=>ob (unS r (sgs r d.2)) fun e=>some (x,e))=some d
  rw[h1,h2];rfl
theorem Au8: ∀(ps:List (Bool×List Sh)) (d:Nx ps),unA ps (mkA ps d)=some d
 |[],_=>rfl
 |p::r,d=>by
  show chk (p.1==p.1) (ob (unS p.2 (sgs p.2 d.1)) fun x=>ob (unA r (mkA r d.2)) fun e=>some (x,e))=some d
  rw[A3v,Au8 r d.2]
  simp[chk,ob]
mutual
def wfD:(s:Sh)→s.den→Prop
 | .int k,n=>(Lit.int k n).wf=true
 | .sl _ cs,l=>l.length≤maxLen∧ ∀(i:Nat) (d:dens cs),l[i]? =some d→Aa1 cs d
 |_,_=>True
def Aa1:(cs:List Sh)→dens cs→Prop
 |[],_=>True
 |s::r,d=>wfD s d.1∧Aa1 r d.2
end
mutual
theorem RdD.wfD {G:Az}: ∀(s:Sh) (d:s.den) (v:Value),RdD G s d v→wfD s d
 | .int k,n,v,h=>by simp only[RdD]at h;simp only[YtmhhajdeafijmaaGreat.wfD];exact h.2
 | .bool,_,_,_=>by simp only[YtmhhajdeafijmaaGreat.wfD]
 | .str,_,_,_=>by simp only[YtmhhajdeafijmaaGreat.wfD]
 | .junk,_,_,_=>by simp only[YtmhhajdeafijmaaGreat.wfD]
 | .sl e cs,l,v,h=>by
  simp only[RdD]at h
  simp only[YtmhhajdeafijmaaGreat.wfD]
  obtain⟨a,cap,_,hc1,hc2,_,h4⟩:=h
  refine⟨Nat.le_trans hc1 hc2,fun i d hd=>?_⟩
  obtain⟨b,o,_,h5⟩:=h4 i d hd
  exact Di.wfD cs d b _ h5
theorem Di.wfD {G:Az}: ∀(cs:List Sh) (d:dens cs) (b o:Nat),Di G cs d b o→Aa1 cs d
 |[],_,_,_,_=>by simp only[Aa1]
 |s::r,d,b,o,h=>by
  simp only[Di]at h
  obtain⟨⟨v,_,h2⟩,h3⟩:=h
  simp only[Aa1]
  exact⟨RdD.wfD s d.1 v h2,Di.wfD r d.2 b _ h3⟩
end
def WfA:(ps:List (Bool×List Sh))→Nx ps→Prop
 |[],_=>True
 |p::r,d=>Aa1 p.2 d.1∧WfA r d.2
theorem RVs.wf {G:Az}: ∀ {cs:List Sh} {d:dens cs} {vs:List Value},RVs G (sgs cs d) vs→Aa1 cs d
 |[],_,_,_=>by simp only[Aa1]
 |s::r,d,[],h=>by simp[sgs,RVs]at h
 |s::r,d,v::vs,h=>by
  simp only[Aa1]
  exact⟨RdD.wfD s d.1 v h.1,RVs.wf h.2⟩
theorem RVv.wf {G:Az} {p:Bool×List Sh} {d:dens p.2} {v:Value} (h:RVv G (rv p d) v):Aa1 p.2 d:=by
 unfold RVv rv at h
 cases hp:p.1 with
 |true=>simp only[hp]at h;obtain⟨vs,_,h⟩:=h;exact h.wf
 |false=>simp only[hp]at h;exact RVs.wf h
theorem RVa.wf {G:Az}: ∀ {ps:List (Bool×List Sh)} {d:Nx ps} {vs:List Value},RVa G (mkA ps d) vs→WfA ps d
 |[],_,_,_=>trivial
 |p::r,d,[],h=>by simp[mkA,RVa]at h
 |p::r,d,v::vs,h=>⟨RVv.wf h.1,RVa.wf h.2⟩
theorem A9c {P:Program} {f:FuncId} {ps:List (Bool×List Sh)} {R:Type} {V:Nx ps→Option R} {rvs:R→List RV×List RV} {r:R} (hF:Fn P f .plain (Au ps V rvs)) (hr:rvs r=([(false,[⟨.bool,true⟩])],[])) (hV: ∀d,WfA ps d→V d=some r)
  {w:World} {vs:List Value} {d:Nx ps} (h:RVa (Cj (Nu w)) (mkA ps d) vs):Calls P f vs.toArray w (Ret w (.bool true)):=by
 have hd:(Au ps V rvs (mkA ps d)).val=some (rvs r):=by
  unfold Au
  cases hu:unA ps (mkA ps d)with
  |none=>rw[Au8]at hu;cases hu
  |some d'=>
   have e:d'=d:=Option.some.inj (hu.symm.trans (Au8 ps d))
   subst e
   simp only[Tree.val,Tree.run,ob,hV _ h.wf]
 refine(hF.does (mkA ps d) _ vs w (Cj (Nu w)) hd (fun b o v hv=>?_) h).mono ?_
 ·unfold Cj Ac.cell Nu at hv
  cases e:w.heap[b]? with
  |none=>rw[e]at hv;cases hv
  |some ob'=>
   rw[e]at hv
   cases ob'<;>simp at hv
   simp[World.cell?,e,hv]
 ·rintro e w' ⟨v,f,rfl,g,hl,hf,hO⟩
  rw[hr]at hO
  refine Ret.mk ?_ g
  simp only[Kx,OVv,OVs]at hO
  obtain⟨_,_,_,h1,_⟩:=hO
  simpa only[A4] using h1
end
end Go.Proofs.YtmhhajdeafijmaaGreat
namespace Go.Proofs.YtmhhajdeafijmaaGreat
open Go.RowKit
set_option linter.unusedVariables false
set_option linter.unusedSimpArgs false
noncomputable section
section
variable {α β γ ρ:Type}
theorem Ad (x:α):(Tree.leaf x).val=some x:=rfl
theorem Azt:(Tree.fail:Tree α).val=none:=rfl
theorem Ao (b:Bool) (t:Tree α):(Tree.chk b t).val=chk b t.val:=rfl
theorem Ag (b:Bool) (t f:Tree α):(Tree.br b t f).val=br b t.val f.val:=rfl
theorem Ai (x:Option β) (f:β→Tree α):(Tree.ob x f).val=ob x fun c=>(f c).val:=rfl
theorem S8 (x:β⊕γ) (f:β→Tree α) (g:γ→Tree α):(Tree.sm x f g).val=sm x (fun c=>(f c).val) fun c=>(g c).val:=rfl
theorem Aj (a:α) (f:α→Option ρ):ob (some a) f=f a:=rfl
theorem Bbt (b:β) (f:α→Option ρ) (g:β→Option ρ):sm (.inr b:α⊕β) f g=g b:=rfl
theorem Aw (x y:Option ρ):br true x y=x:=rfl
theorem An (x y:Option ρ):br false x y=y:=rfl
theorem A5 (x:Option ρ):chk true x=x:=rfl
theorem Bbs (b:Bool) (x y:Option ρ):br b x y=if b=true then x else y:=by cases b<;>rfl
theorem Bdi (l:List α) (n:Int) (h0:0≤n) (i:Nat) (hi:n=i):idx l n=l[i]? :=by subst hi;unfold idx;rw[if_pos h0];simp
theorem A39 (l:List α) (i:Nat):idx l (i:Int)=l[i]? :=Bdi l _ (by omega) i rfl
theorem Ra {l:List α} {n:Int} (h0:0≤n) (h1:n<l.length): ∃x,idx l n=some x∧x∈l:=by
 unfold idx
 rw[if_pos h0]
 have:n.toNat<l.length:=by omega
 exact⟨_,List.getElem?_eq_getElem this,List.getElem_mem this⟩
end
theorem w64 {n:Int} (h: -9223372036854775808≤n∧n≤9223372036854775807):IntKind.i64.wrap n=n:=IntWalk.i64_in n h
theorem w8 {n:Int} (h:0≤n∧n≤255):IntKind.u8.wrap n=n:=IntWalk.u8_in n h
theorem A8b {D O:Type} {B:D→Option (D⊕O)} (f:Nat→D) (n:Nat) (r:Option O):(∀i,i<n→B (f i)=some (.inl (f (i+1))))→Ay B (f n)=r→Ay B (f 0)=r:=by
 intro h he
 have key: ∀k,k≤n→Ay B (f (n-k))=r:=by
  intro k
  induction k with
  |zero=>intro _;exact he
  |succ k ih=>
   intro hk
   rw[Ci,h _ (by omega)]
   simp only
   rw[show n-(k+1)+1=n-k by omega]
   exact ih (by omega)
 simpa using key n (Nat.le_refl _)
end
end Go.Proofs.YtmhhajdeafijmaaGreat
namespace Go.Proofs.YtmhhajdeafijmaaGreat
open Go.RowKit
set_option linter.unusedVariables false
set_option linter.unusedSimpArgs false
noncomputable section
def F3 {E:Type} (f:E→Nat):List E→Nat
 |[]=>0
 |x::r=>f x+F3 f r
theorem F4 {E:Type} {f:E→Nat}: ∀ {a b:List E},F3 f (a++b)=F3 f a+F3 f b
 |[],b=>by simp[F3]
 |x::a,b=>by simp only[List.cons_append,F3,F4];omega
end
end Go.Proofs.YtmhhajdeafijmaaGreat
namespace Go.Proofs.YtmhhajdeafijmaaGreat
open Go.RowKit
set_option linter.unusedVariables false
set_option linter.unusedSimpArgs false
noncomputable section
theorem Aaq {D1 D2 O1 O2:Type} {B1:D1→Option (D1⊕O1)} {B2:D2→Option (D2⊕O2)} (R:Nat→D1→D2→Prop) (Q:O1→O2→Prop) (n:Nat)
  (hs: ∀i d1 d2,i<n→R i d1 d2→(∃d1' d2',B1 d1=some (.inl d1')∧B2 d2=some (.inl d2')∧R (i+1) d1' d2')∨(∃o1 o2,B1 d1=some (.inr o1)∧B2 d2=some (.inr o2)∧Q o1 o2))
  (he: ∀d1 d2,R n d1 d2→ ∃o1 o2,B1 d1=some (.inr o1)∧B2 d2=some (.inr o2)∧Q o1 o2) {d1:D1} {d2:D2} (h:R 0 d1 d2):
  ∃o1 o2,Ay B1 d1=some o1∧Ay B2 d2=some o2∧Q o1 o2:=by
 have key: ∀k i,i+k=n→ ∀d1 d2,R i d1 d2→ ∃o1 o2,Ay B1 d1=some o1∧Ay B2 d2=some o2∧Q o1 o2:=by
  intro k
  induction k with
  |zero=>
   intro i hi d1 d2 h
   rw[show i=n by omega]at h
   obtain⟨o1,o2,h1,h2,hq⟩:=he d1 d2 h
   exact⟨o1,o2,by rw[Ci,h1],by rw[Ci,h2],hq⟩
  |succ k ih=>
   intro i hi d1 d2 h
   rcases hs i d1 d2 (by omega) h with⟨d1',d2',h1,h2,hr⟩|⟨o1,o2,h1,h2,hq⟩
   ·obtain⟨o1,o2,h3,h4,hq⟩:=ih (i+1) (by omega) d1' d2' hr
    exact⟨o1,o2,by rw[Ci,h1];exact h3,by rw[Ci,h2];exact h4,hq⟩
   ·exact⟨o1,o2,by rw[Ci,h1],by rw[Ci,h2],hq⟩
 exact key n 0 (by omega) d1 d2 h
end
end Go.Proofs.YtmhhajdeafijmaaGreat
namespace Go.Proofs.YtmhhajdeafijmaaGreat
open Go.RowKit
set_option linter.unusedVariables false
set_option linter.unusedSimpArgs false
noncomputable section
def Ajb {E:Type} (q:Nat→E→Bool):List E→Nat→Option Nat
 |[],_=>none
 |x::r,i=>match q i x with|true=>some i|false=>Ajb q r (i+1)
theorem Awq {E:Type} {q:Nat→E→Bool}: ∀ {l:List E} {i:Nat},Ajb q l i=none↔ ∀j x,l[j]? =some x→q (i+j) x=false
 |[],i=>by simp[Ajb]
 |x::r,i=>by
  simp only[Ajb]
  cases hq:q i x with
  |true=>
   simp only
   constructor
   ·intro h;cases h
   ·intro h
    have:=h 0 x rfl
    rw[Nat.add_zero,hq]at this;cases this
  |false=>
   simp only
   rw[Awq]
   refine⟨fun h j y hj=>?_,fun h j y hj=>?_⟩
   ·cases j with
    |zero=>simp at hj;subst hj;simpa using hq
    |succ j=>have:=h j y (by simpa using hj);rw[show i+(j+1)=i+1+j by omega];exact this
   ·have:=h (j+1) y (by simpa using hj);rw[show i+1+j=i+(j+1) by omega];exact this
def Sc {E:Type} (q:Nat→E→Bool) (l:List E):Bool:=(Ajb q l 0).isNone
theorem A2z {E:Type} {q:Nat→E→Bool} {l:List E}:Sc q l=true↔ ∀j x,l[j]? =some x→q j x=false:=by
 unfold Sc
 rw[Option.isNone_iff_eq_none,Awq]
 simp
theorem A8c {E D X Y:Type} {B:D→Option (D⊕(X⊕Y))} (l:List E) (f:Nat→D) (q:Nat→E→Bool) (out:Nat→X) (fin:Y)
  (hs: ∀i x,i<l.length→l[i]? =some x→B (f i)=br (q i x) (some (.inr (.inl (out i)))) (some (.inl (f (i+1))))) (he:B (f l.length)=some (.inr (.inr fin))):
  Ay B (f 0)=some ((Ajb q l 0).elim (.inr fin) fun i=>.inl (out i)):=by
 have key: ∀k i,i+k=l.length→Ay B (f i)=some ((Ajb q (l.drop i) i).elim (.inr fin) fun i=>.inl (out i)):=by
  intro k
  induction k with
  |zero=>
   intro i hi
   have e:i=l.length:=by omega
   subst e
   rw[Ci,he,List.drop_length];rfl
  |succ k ih=>
   intro i hi
   have hlt:i<l.length:=by omega
   have hx:=List.getElem?_eq_getElem hlt
   rw[Ci,hs i _ hlt hx,List.drop_eq_getElem_cons hlt]
   simp only[Ajb]
   cases q i l[i]with
   |true=>rfl
   |false=>exact ih (i+1) (by omega)
 have:=key l.length 0 (by omega)
 rwa [List.drop_zero]at this
theorem Abw {E D X Y:Type} {B:D→Option (D⊕(X⊕Y))} (l:List E) (f:Nat→D) (q:Nat→E→Bool) (bad:X) (fin:Y)
  (hs: ∀i x,i<l.length→l[i]? =some x→B (f i)=br (q i x) (some (.inr (.inl bad))) (some (.inl (f (i+1))))) (he:B (f l.length)=some (.inr (.inr fin))):
  Ay B (f 0)=some (bif Sc q l then .inr fin else .inl bad):=by
 rw[A8c l f q (fun _=>bad) fin hs he]
 unfold Sc
 cases Ajb q l 0<;>rfl
theorem Asl {D X Y:Type} {B:D→Option (D⊕(X⊕Y))} (n:Nat) (f:Nat→D) (q:Nat→Bool) (bad:X) (fin:Y)
  (hs: ∀i,i<n→B (f i)=br (q i) (some (.inr (.inl bad))) (some (.inl (f (i+1))))) (he:B (f n)=some (.inr (.inr fin))):
  Ay B (f 0)=some (bif Sc (fun i (_:Unit)=>q i) (List.replicate n ())then .inr fin else .inl bad):=
 Abw (List.replicate n ()) f (fun i _=>q i) bad fin (fun i x hi _=>hs i (by simpa using hi)) (by rw[List.length_replicate];exact he)
theorem Ad4 {n:Nat} {q:Nat→Bool}:Sc (fun i (_:Unit)=>q i) (List.replicate n ())=true↔ ∀i,i<n→q i=false:=by
 rw[A2z]
 refine⟨fun h i hi=>h i () (by simp[hi]),fun h i x hx=>h i ?_⟩
 rw[List.getElem?_replicate]at hx
 split at hx
 ·assumption
 ·cases hx
theorem Cq {D O:Type} {B:D→Option (D⊕O)} (n:Nat) (f:Nat→D) (o:O) (hs: ∀i,i<n→B (f i)=some (.inl (f (i+1)))) (he:B (f n)=some (.inr o)):Ay B (f 0)=some o:=
 A8b f n (some o) hs (by rw[Ci,he])
theorem Ib {a b:Bool} (h:a=true↔b=true):a=b:=by cases a<;>cases b<;>simp_all
end
end Go.Proofs.YtmhhajdeafijmaaGreat
namespace Go.Proofs.YtmhhajdeafijmaaGreat
open Go.RowKit
set_option linter.unusedVariables false
noncomputable section
def Ms:List Int:=[0x428a2f98,0x71374491,0xb5c0fbcf,0xe9b5dba5,0x3956c25b,0x59f111f1,0x923f82a4,0xab1c5ed5,
 0xd807aa98,0x12835b01,0x243185be,0x550c7dc3,0x72be5d74,0x80deb1fe,0x9bdc06a7,0xc19bf174,
 0xe49b69c1,0xefbe4786,0x0fc19dc6,0x240ca1cc,0x2de92c6f,0x4a7484aa,0x5cb0a9dc,0x76f988da,
 0x983e5152,0xa831c66d,0xb00327c8,0xbf597fc7,0xc6e00bf3,0xd5a79147,0x06ca6351,0x14292967,
 0x27b70a85,0x2e1b2138,0x4d2c6dfc,0x53380d13,0x650a7354,0x766a0abb,0x81c2c92e,0x92722c85,
 0xa2bfe8a1,0xa81a664b,0xc24b8b70,0xc76c51a3,0xd192e819,0xd6990624,0xf40e3585,0x106aa070,
 0x19a4c116,0x1e376c08,0x2748774c,0x34b0bcb5,0x391c0cb3,0x4ed8aa4a,0x5b9cca4f,0x682e6ff3,
 0x748f82ee,0x78a5636f,0x84c87814,0x8cc70208,0x90befffa,0xa4506ceb,0xbef9a3f7,0xc67178f2]
theorem A8d:Db Ac.emp [Ac.emp,Ac.emp]:=by
 refine⟨?_,?_⟩
 ·simp only[List.pairwise_cons,List.mem_singleton,List.not_mem_nil]
  exact⟨fun g hg b=>.inl rfl,fun _ h=>h.elim,List.Pairwise.nil⟩
 ·intro g hg
  simp at hg;subst hg
  intro b o h;cases h
theorem A6b {w:World} {k:IntKind} {x:Int} {e:Ending} {w':World} (hw:(Lit.int k x).wf=true) (h:Ret w (.int k x) e w'):Qb w (Kx [(false,[⟨.int k,x⟩])]) e w':=by
 obtain⟨rfl,g⟩:=h
 refine Qb.mk Ac.emp g (fun b o h=>by cases h) (fun b o h=>by cases h) ?_
 simp only[Kx,OVv,OVs]
 exact⟨Ac.emp,Ac.emp,A8d,by simp only[A4];exact⟨trivial,hw⟩,trivial⟩
def Su (n:Int):Int:=if 0≤n∧n≤63 then Ms[n.toNat]?.getD 0 else 0
theorem A6c (n:Int):(Lit.int .i64 (Su n)).wf=true:=by
 unfold Su
 split
 ·cases h:Ms[n.toNat]? with
  |none=>rfl
  |some x=>
   have hall: ∀x∈Ms,(Lit.int .i64 x).wf=true:=by decide+kernel
   exact hall x (List.mem_of_getElem? h)
 ·rfl
def Ar2:Array Value:=(Ms.map (Value.int .i64)).toArray
def Ar3:Array Value:=(List.replicate 64 (Value.int .i64 0)).toArray
def Ak9 (T:Nat) (w:World) (C:Array Value):World:=(w.alloc (.cells Ar3 T)).setRow w.heap.size C
theorem Aw4 {P:Program} {ops:Array Oper} {rest:List Oper} {o:Oper} {a:Act} {w:World} {Q:Exit→Act→World→Prop} (hg:o.guard=none) (t:TypeId) (parts:Array (Nat×Operand)) (ho:o.op= .build t parts) (C:Array Value)
  (hf:P.built t (parts.map fun(i,x)=>(i,a.eval x)).toList=some C) (h:wpList P ops Q rest (a.put o.dst (.agg C)) w):wpList P ops Q (o::rest) a w:=by
 refine wpList_build hg t parts ho (by rw[hf];rfl) ?_
 rw[hf];exact h
theorem Aw5 {P:Program} {ops:Array Oper} {rest:List Oper} {o:Oper} {a:Act} {w:World} {Q:Exit→Act→World→Prop} (hg:o.guard=none) (t:TypeId) (ho:o.op= .alloc t) (i:TypeInfo) (z:Value) (Z:Array Value) (h1:P.info? t=some i) (h2:i.zero=some z) (h3:z.cells=Z)
  (h:wpList P ops Q rest (a.put o.dst (.pointer (some ⟨w.heap.size,0,none⟩))) (w.alloc (.cells Z t))):wpList P ops Q (o::rest) a w:=by
 refine wpList_plain hg fun _ hK=>B4 ?_ (hK _ _ h)
 unfold execOp;rw[ho]
 simp only[Instr.alloc,Sem.run_bind,Az3 h1 h2,Result.andThen_ok,Sem.run_pure,Aea,h3]
theorem Aw6 {P:Program} {ops:Array Oper} {rest:List Oper} {o:Oper} {a:Act} {w:World} {Q:Exit→Act→World→Prop} (hgd:o.guard=none) (T:Nat) (x y:Operand) (ho:o.op= .store T x y) (C:Array Value)
  (hx:a.eval x= .pointer (some ⟨w.heap.size,0,none⟩)) (hy:a.eval y= .agg C) (hi:(P.info? T).map (·.size)=some C.size) (hold:Ar3.size=C.size) (h1:C.all (·.oneCell')=true)
  (h:wpList P ops Q rest (a.put o.dst undef) (Ak9 T w C)):wpList P ops Q (o::rest) a (w.alloc (.cells Ar3 T)):=
 wpList_store_row hgd T x y ho w.heap.size C hx hy T Ar3 (heap_alloc_new w _) hi hold h1 h
theorem A59 (T:Nat) (w:World) (C:Array Value):Ak9 T w C=w.alloc (.cells C T):=by
 unfold Ak9 World.setRow World.alloc
 congr 1
 apply Array.ext_getElem?
 intro i
 simp only[Array.getElem?_modify,Array.getElem?_push]
 by_cases hi:w.heap.size=i
 ·subst hi;simp
 ·simp[hi,Ne.symm hi]
theorem A1i (T:Nat) (w:World) (C:Array Value) (j:Nat):(Ak9 T w C).cell? ⟨w.heap.size,j,none⟩=C[j]? :=cell_setRow_same _ _ _ _ _ _ _ (heap_alloc_new w _)
end
end Go.Proofs.YtmhhajdeafijmaaGreat

/-
  An evaluator of functions by symbols, part 3, and that what it answers is what a call returns; nothing is assumed.
-/
import Derived.Test.YtmhhajdeafijmaaGreatEv1
namespace Go.Proofs.YtmhhajdeafijmaaGreat
open Go.RowKit
set_option linter.unusedVariables false
set_option linter.unusedSectionVars false
set_option linter.unusedSimpArgs false

theorem OVs.sub: ∀ {xs:List Sg} {vs:List Value} {f g:Aa},OVs f xs vs→f.sub g→OVs g xs vs
 |[],[],_,_,_,_=>trivial
 |x::xs,v::vs,_,_,⟨p,q,h1,h2,h3⟩,hs=>⟨p,q,h1.sub hs,h2,h3⟩
 |[],_::_,_,_,h,_=>h.elim
 |_::_,[],_,_,h,_=>h.elim
theorem OVv.sub {r:RV} {v:Value} {f g:Aa} (h:OVv f r v) (hs:f.sub g):OVv g r v:=by
 obtain⟨a,xs⟩:=r
 cases a with
 |true=>obtain⟨vs,e,h⟩:=h;exact⟨vs,e,OVs.sub h hs⟩
 |false=>exact OVs.sub (xs:=xs) (vs:=[v]) h hs
theorem OCs.strip: ∀ {xs:List Cl} {vs:List Value} {f:Aa},OCs f xs vs→OVs f (xs.map fun c=>⟨c.sh,c.val⟩) vs
 |[],[],_,_=>trivial
 |x::xs,v::vs,_,⟨p,q,h1,h2,h3⟩=>⟨p,q,h1,h2,h3.strip⟩
 |[],_::_,_,h=>h.elim
 |_::_,[],_,h=>h.elim
theorem Bs.at: ∀ {cs:List Sh} {h:Aa} {d:dens cs} {c:List Value} {j:Nat} {sg:Sg},Bs h cs d c→Do cs d j=some sg→ ∃u g,c[j]? =some u∧g.sub h∧Bb g sg.sh sg.val u
 |[],h,d,c,j,sg,_,hj=>by simp[Do]at hj
 |s::r,h,d,c,j,sg,ho,hj=>by
  simp only[Bs]at ho
  obtain⟨v,t,g,h',rfl,hp,h1,h2⟩:=ho
  cases j with
  |zero=>simp[Do]at hj;subst hj;exact⟨v,g,rfl,hp.2 g (by simp),h1⟩
  |succ j=>simp only[Do]at hj;obtain⟨u,g',e,q,ho⟩:=Bs.at h2 hj;exact⟨u,g',by simpa using e,Aa.sub_trans q (hp.2 h' (by simp)),ho⟩
theorem A9h {F:Aa} {e:Nat} {cs:List Sh} {l:List (dens cs)} {v:Value} {i:Nat} {d:dens cs} {j:Nat} {sg:Sg} (h:Bb F (.sl e cs) l v) (hd:l[i]? =some d) (hc:Do cs d j=some sg) {b n cap:Nat} (hv:v= .slice (some ⟨b,0,none⟩) n cap) {u:Value} (hu:F.cell b (i*cs.length+j)=some u):Bb F sg.sh sg.val u:=by
 simp only[Bb]at h
 obtain⟨css,rw_,hs,r1,r2,r3⟩:=h
 have hlt:i<l.length:=(List.getElem?_eq_some_iff.1 hd).1
 have hih:i<hs.length:=by rw[r3.2.1];exact hlt
 have hic:i<css.length:=by rw[r3.1];exact hlt
 obtain⟨hlen,hown⟩:=r3.2.2 i _ _ d (List.getElem?_eq_getElem hih) (List.getElem?_eq_getElem hic) hd
 obtain⟨u',g,e1,q1,q2⟩:=Bs.at hown hc
 have hj:j<cs.length:=by have:=(List.getElem?_eq_some_iff.1 e1).1;omega
 obtain⟨hl1,⟨⟨a',hE'⟩,hz'⟩|⟨b',cap',cur,hE',hg',hnc,hcm,hsz,htk'⟩⟩:=r1
 ·rw[hz']at hlt;omega
 ·rw[hv]at hE'
  cases hE'
  have hFr:F b=some (.cells cur e (0,0)):=r2.2 rw_ (by simp) b _ hg'
  have hflat:css.flatten[i*cs.length+j]? =some u':=by
   rw[Fa r3.len (List.getElem?_eq_getElem hic) hj];exact e1
  rw[←htk',List.getElem?_take]at hflat
  split at hflat
  ·unfold Aa.cell at hu
   rw[hFr]at hu
   have h1:cur[i*cs.length+j]? =some u':=by simpa using hflat
   have h2:cur[i*cs.length+j]? =some u:=by simpa using hu
   rw[h1]at h2
   cases h2
   exact Bb.sub _ _ _ _ _ q2 (Aa.sub_trans q1 (r2.2 _ (by simp[List.getElem_mem])))
  ·cases hflat
theorem A9i {cx:Cx} {g:Gh} {st:St} {x:Cl} {v:Value} (h:CR cx g st x v):CR cx g st (A3y x) v:=by
 obtain⟨sh,val,tok⟩:=x
 cases tok with
 |elt t e cs l i d j=>
  obtain⟨h1,h2,h3⟩:=h
  refine⟨h1,h2,fun ht=>?_⟩
  obtain⟨⟨q1,q2,q3,q4⟩,hc,b,n,cap,hv,hu⟩:=h3 ht
  exact A9h (sg:=⟨sh,val⟩) q1 q4 hc hv hu
 |_=>exact h
theorem Aoe {cx:Cx} {g:Gh} {st:St}: ∀ {xs:List Cl} {vs:List Value},CRs cx g st xs vs→CRs cx g st (xs.map A3y) vs
 |[],[],_=>trivial
 |x::xs,v::vs,h=>⟨A9i h.1,Aoe h.2⟩
 |[],_::_,h=>h.elim
 |_::_,[],h=>h.elim
theorem Auq (xs:List Cl):((xs.map A3y).map fun c=>(⟨c.sh,c.val⟩:Sg))=xs.map fun c=>⟨c.sh,c.val⟩:=by
 rw[List.map_map]
 apply List.map_congr_left
 rintro⟨sh,val,tok⟩ _
 cases tok<;>rfl
theorem Ara {cx:Cx} {w:World} {gh:Gh} {st:St} (hM:RM cx gh st w): ∀ {rs:List (Bool×List Cl)} {vs:List Value} {live live' e:List Nat},(∀t,t∈live→t∈st.live)→live.Nodup→VRt cx gh st rs vs→J7 rs=some e→eat live e=some live'→
  ∃f,OVt f (rs.map strip) vs∧(∀t,t∈live'→t∈live)∧live'.Nodup∧ ∀b o,f b=some o→ ∃t,t∈live∧t∉live'∧gh.F t b=some o
 |[],[],live,live',e,hsub,hnd,_,h,he=>by
  simp[J7]at h;subst h
  simp[eat]at he;subst he
  exact⟨Aa.emp,trivial,fun _ h=>h,hnd,fun b o hb=>by cases hb⟩
 |(a,xs)::rs,v::vs,live,live',e,hsub,hnd,hc,h,he=>by
  simp only[J7]at h
  obtain⟨e1,h1,h⟩:=Af h
  obtain⟨e2,h2,h⟩:=Af h
  simp at h;subst h
  obtain⟨l1,he1,he2⟩:=S4 he
  have hgive: ∃f,OVv f (strip (a,xs)) v∧(∀t,t∈l1→t∈live)∧l1.Nodup∧ ∀b o,f b=some o→ ∃t,t∈live∧t∉l1∧gh.F t b=some o:=by
   cases a with
   |true=>
    obtain⟨us,e,hcs⟩:=hc.1
    obtain⟨f,o1,s1,n1,u1⟩:=Pv hM hsub hnd (Aoe hcs) h1 he1
    exact⟨f,⟨us,e,by have:=o1.strip;rw[Auq]at this;exact this⟩,s1,n1,u1⟩
   |false=>
    obtain⟨f,o1,s1,n1,u1⟩:=Pv hM hsub hnd (Aoe (show CRs cx gh st xs [v]from hc.1)) h1 he1
    exact⟨f,by have:=o1.strip;rw[Auq]at this;exact this,s1,n1,u1⟩
  obtain⟨f1,o1,s1,n1,u1⟩:=hgive
  obtain⟨f2,o2,s2,n2,u2⟩:=Ara hM (fun t ht=>hsub t (s1 t ht)) n1 hc.2 h2 he2
  have hap:f1.apart f2:=fun b=>by
   cases e1:f1 b with
   |none=>exact .inl rfl
   |some o=>
    right
    cases e2:f2 b with
    |none=>rfl
    |some o'=>
     obtain⟨t,ht,ht',hF⟩:=u1 b o e1
     obtain⟨t2,hu,hu',hF'⟩:=u2 b o' e2
     have hne:t≠t2:=fun e=>ht' (e▸hu)
     rcases hM.apart t t2 (hsub t ht) (hsub t2 (s1 t2 hu)) hne b with h|h
     ·rw[h]at hF;cases hF
     ·rw[h]at hF';cases hF'
  refine⟨f1.join f2,⟨f1,f2,Dr.two hap,o1,o2⟩,fun t ht=>s1 t (s2 t ht),n2,fun b o hb=>?_⟩
  cases e1:f1 b with
  |some o'=>
   simp[Aa.join,e1]at hb;subst hb
   obtain⟨t,ht,ht',hF⟩:=u1 b _ e1
   exact⟨t,ht,fun hm=>ht' (s2 t hm),hF⟩
  |none=>
   simp[Aa.join,e1]at hb
   obtain⟨t,ht,ht',hF⟩:=u2 b _ hb
   exact⟨t,s1 t ht,ht',hF⟩
 |[],_::_,_,_,_,_,_,hc,_,_=>hc.elim
 |_::_,[],_,_,_,_,_,hc,_,_=>hc.elim
def Adj (tmps:Array Value):ResultVar→Sem Value
 | .tmp t=>pure (tmps.getD t undef)
 | .cell a t=>do loadVar t (←asAddr (tmps.getD a undef))
theorem A4a (fn:Func) (tmps:Array Value):results fn tmps=(do
  let vs ←fn.results.mapM (Adj tmps)
  pure (if h:vs.size=1 then vs[0]else .tuple vs)):=rfl
theorem Uk {P:Program} {g:Cfg} (hC:CfgOk P g) {cx:Cx} {w:World} {gh:Gh} {st:St} {a:Act} {nt:Nat} (hM:RM cx gh st w) (hE:Env nt cx gh st a): ∀ {rs:List ResultVar} {l:List (Bool×List Cl)},H8 g st rs=some l→
  ∃vs:List Value,(rs.mapM (Adj a.tmps)).run P w= .ok vs w∧VRt cx gh st l vs
 |[],l,h=>by simp[H8]at h;subst h;exact⟨[],by simp,trivial⟩
 | .tmp t::rs,l,h=>by
  simp only[H8]at h
  split at h
  ·rename_i ag xs hg
   obtain⟨l',hl',h⟩:=Af h
   simp at h;subst h
   obtain⟨vs,h1,h2⟩:=Uk hC hM hE hl'
   have hv:=hE.2.2.1 t
   rw[hg]at hv
   exact⟨a.tmps.getD t undef::vs,by simp[List.mapM_cons,Sem.run_bind,h1,Adj],hv,h2⟩
  ·cases h
 | .cell c t::rs,l,h=>by
  simp only[H8]at h
  obtain⟨T,hT,h⟩:=Af h
  split at h
  ·rename_i b off hg
   obtain⟨cs,hcs,h⟩:=Af h
   obtain⟨hb,h⟩:=A7 h
   obtain⟨l',hl',h⟩:=Af h
   simp at h;subst h
   have hlen:=Nat.eq_of_beq_eq_true hb
   obtain⟨vs,h1,h2⟩:=Uk hC hM hE hl'
   have hv:=hE.2.2.1 c
   rw[hg]at hv
   obtain⟨us,e,g1,g2,g3⟩:=hM.box b cs hcs
   have hcr:=(g3.drop off).take T.shs.length
   obtain⟨v,k1,k2,k3⟩:=Ax6 (hC.ty t T hT) (w:=w) (b:=gh.B b) (o:=off) (Aub g1) (by rw[←hcr.len];exact hlen)
   refine⟨v::vs,?_,VRv.mk hcr k2 k3,h2⟩
   simp[List.mapM_cons,Sem.run_bind,hv.2,asAddr,k1,h1,Adj]
  ·cases h

theorem A4b {cx:Cx} {g:Gh} {st:St} (hs:cx.G0.sub g.G): ∀ {xs:List Sg} {vs:List Value},RVs cx.G0 xs vs→CRs cx g st (xs.map fun s=>⟨s.sh,s.val,An2 s.sh⟩) vs
 |[],[],_=>trivial
 |x::xs,v::vs,h=>⟨A9a rfl h.1 hs,A4b hs h.2⟩
 |[],_::_,h=>h.elim
 |_::_,[],h=>h.elim
theorem Ayo {cx:Cx} {g:Gh} {st:St} (hs:cx.G0.sub g.G) {r:RV} {v:Value} (h:RVv cx.G0 r v):VRv cx g st r.1 (r.2.map fun s=>⟨s.sh,s.val,An2 s.sh⟩) v:=by
 obtain⟨a,xs⟩:=r
 cases a with
 |true=>obtain⟨vs,e,h⟩:=h;exact⟨vs,e,A4b hs h⟩
 |false=>exact A4b hs (xs:=xs) (vs:=[v]) h
theorem Ul (v:Value) (vs:List Value) (i n:Nat) (h:n+1≤i):(v::vs).getD (i-n) undef=vs.getD (i-(n+1)) undef:=by
 rw[show i-n=(i-(n+1))+1 by omega];simp
def Mz (st:St) (ts:List Nat):St:={st with live:=ts.reverse++st.live,used:=ts.reverse++st.used}
theorem A6c (st:St) (a b:List Nat):Mz (Mz st a) b=Mz st (a++b):=by simp[Mz,List.append_assoc]
theorem Akg {cx:Cx} {w:World}: ∀ {as:List RV} {ms:List Nat} {vals:List Value} {i n:Nat} {fr:Aa} {gh:Gh} {st:St},(ms.all fun m=>Nat.ble m 2)=true→AVa cx.G0 fr ms as vals→RM cx gh st w→Bi fr w→Es cx gh st fr→(∀t,n≤t→t∉st.used)→
  ∃gh',RM cx gh' (Mz st (Cg i n ms as).2.2) w∧Ext gh st gh' (Mz st (Cg i n ms as).2.2)∧(Cg i n ms as).2.1=[]∧
   ∀(rest:List Value) j,i≤j→VR cx gh' (Mz st (Cg i n ms as).2.2) (look j (Cg i n ms as).1) ((vals++rest).getD (j-i) undef)
 |[],ms,[],i,n,fr,gh,st,_,_,hM,_,_,_=>by
  refine⟨gh,?_,?_,rfl,fun rest j _=>trivial⟩
  ·simpa [Cg,Mz] using hM
  ·simpa [Cg,Mz] using Ext.refl gh st
 |(a,xs)::as,ms,v::vals,i,n,fr,gh,st,hms,⟨g,h,hp,h1,h2⟩,hM,hl,hf,hu=>by
  have lg:Bi g w:=hl.sub (hp.2 g (by simp))
  have lh:Bi h w:=hl.sub (hp.2 h (by simp))
  have fg:Es cx gh st g:=fun b o hb=>hf b o (hp.2 g (by simp) b o hb)
  have fh:Es cx gh st h:=fun b o hb=>hf b o (hp.2 h (by simp) b o hb)
  have hgh:g.apart h:=(List.pairwise_cons.1 hp.1).1 h (by simp)
  have htail:(ms.tail.all fun m=>Nat.ble m 2)=true:=by
   cases ms with
   |nil=>rfl
   |cons m r=>simp only[List.all_cons,Bool.and_eq_true]at hms;exact hms.2
  have hhead:ms.headD 0≤2:=by
   cases ms with
   |nil=>simp
   |cons m r=>simp only[List.all_cons,Bool.and_eq_true]at hms;exact Nat.le_of_ble_eq_true hms.1
  by_cases h0:ms.headD 0=0
  ·have hsp:Cg i n ms ((a,xs)::as)=((i,.v a (xs.map fun s=>⟨s.sh,s.val,An2 s.sh⟩))::(Cg (i+1) n ms.tail as).1,(Cg (i+1) n ms.tail as).2):=by
    simp only[Cg,h0]
   rw[hsp]
   rw[h0]at h1
   obtain⟨g1,M1,E1,B1,L1⟩:=Akg (i:=i+1) (n:=n) htail h2 hM lh fh hu
   refine⟨g1,M1,E1,B1,fun rest j hj=>?_⟩
   rw[C0]
   by_cases hji:j=i
   ·subst hji
    rw[if_pos rfl]
    simp only[Nat.sub_self,List.cons_append,List.getD_cons_zero]
    exact Ayo M1.g0 h1
   ·rw[if_neg hji,List.cons_append,Ul _ _ _ _ (by omega)]
    exact L1 rest j (by omega)
  ·have hO:OVv g (a,xs) v:=by
    have:ms.headD 0=1∨ms.headD 0=2:=by omega
    rcases this with e|e<;>rw[e]at h1<;>exact h1
   have hsp:Cg i n ms ((a,xs)::as)=((i,.v a (Cm n xs).1)::(Cg (i+1) (Cm n xs).2 ms.tail as).1,(Cg (i+1) (Cm n xs).2 ms.tail as).2.1,List.range' n ((Cm n xs).2-n)++(Cg (i+1) (Cm n xs).2 ms.tail as).2.2):=by
    have:ms.headD 0=1∨ms.headD 0=2:=by omega
    rcases this with e|e<;>simp only[Cg,e]
   rw[hsp]
   have hge:=K0 n xs
   obtain⟨g1,M1,E1,C1,N1⟩:=Aj8 (n:=n) hM hO lg fg (fun t t1 _=>hu t t1)
   have hmore:more st n ((Cm n xs).2-n)=Mz st (List.range' n ((Cm n xs).2-n)):=rfl
   obtain⟨g2,M2,E2,B2,L2⟩:=Akg (i:=i+1) (n:=(Cm n xs).2) htail h2 M1 lh (N1 h fh (Aa.apart_symm hgh)) (fun t ht hm=>by
    rcases List.mem_append.1 hm with q|q
    ·have:=List.mem_range'_1.1 (List.mem_reverse.1 q);omega
    ·exact hu t (by omega) q)
   rw[hmore,A6c]at M2 E2 L2
   refine⟨g2,M2,E1.trans E2,B2,fun rest j hj=>?_⟩
   simp only
   rw[C0]
   by_cases hji:j=i
   ·subst hji
    rw[if_pos rfl]
    simp only[Nat.sub_self,List.cons_append,List.getD_cons_zero]
    exact VRv.ext E2 C1
   ·rw[if_neg hji,List.cons_append,Ul _ _ _ _ (by omega)]
    exact L2 rest j (by omega)
 |[],_,_::_,_,_,_,_,_,_,h,_,_,_,_=>h.elim
 |_::_,_,[],_,_,_,_,_,_,h,_,_,_,_=>h.elim
theorem Ayp {G:A6}: ∀ {as:List RV} {ms:List Nat} {vals:List Value} {fr:Aa},AVa G fr ms as vals→as.length=vals.length
 |[],_,[],_,_=>rfl
 |_::_,_,_::_,_,⟨_,_,_,_,h⟩=>by simp[Ayp h]
 |[],_,_::_,_,h=>h.elim
 |_::_,_,[],_,h=>h.elim
theorem Ak5 {G:A6}: ∀ {as:List RV} {vals:List Value},RVa G as vals→AVa G Aa.emp [] as vals
 |[],[],_=>trivial
 |x::xs,v::vs,h=>⟨Aa.emp,Aa.emp,⟨List.pairwise_cons.2 ⟨fun x _=>Aa.emp_apart x,List.pairwise_singleton _ _⟩,fun x hx=>by simp at hx;subst hx;exact Aa.sub_refl _⟩,h.1,Ak5 h.2⟩
 |[],_::_,h=>h.elim
 |_::_,[],h=>h.elim
theorem Ayq {G:A6} {w:World} (h:Em G w) {b o:Nat} {v:Value} (hv:G b o=some v):b<w.heap.size:=by
 rcases Nat.lt_or_ge b w.heap.size with q|q
 ·exact q
 ·rw[Pw h q o]at hv;cases hv
def gh0 (G:A6) (b:Nat):Gh:=⟨G,fun _=>b,fun _=>Aa.emp,fun _=>undef,fun _=>0⟩
theorem Aof (vals:List Value) (nt i:Nat):((vals.toArray++Array.replicate (nt-vals.toArray.size) undef).getD i undef)=(vals++List.replicate (nt-vals.length) undef).getD (i-0) undef:=by
 simp[Array.getD_eq_getD_getElem?,List.getD_eq_getElem?_getD,Array.getElem?_append,List.getElem?_append,Array.getElem?_replicate,List.getElem?_replicate]
theorem Ayr (vals:List Value) (np nt i:Nat) (v:Value) (h:(vals.take np)[i]? =some v):(vals.toArray++Array.replicate (nt-vals.toArray.size) undef).getD i undef=v:=by
 rw[Aof]
 rw[List.getElem?_take]at h
 split at h
 ·rw[Nat.sub_zero,List.getD_eq_getElem?_getD,List.getElem?_append_left (List.getElem?_eq_some_iff.1 h).1,h];rfl
 ·cases h
theorem Aaf {w:World} {G:A6} {fr:Aa} {ms:List Nat} {as:List RV} {vals:List Value} (np nt:Nat) (hms:(ms.all fun m=>Nat.ble m 2)=true) (hG:Em G w) (hl:Bi fr w) (hfr: ∀b,(fr b).isSome=true→ ∀o,G b o=none) (hv:AVa G fr ms as vals) (hle:as.length≤nt):
  ∃gh,RM ⟨w,fr,G,fun _=>undef,vals.take np⟩ gh (E9 ms as) w∧Env nt ⟨w,fr,G,fun _=>undef,vals.take np⟩ gh (E9 ms as) {tmps:=vals.toArray++Array.replicate (nt-vals.toArray.size) undef,defers:=[]}:=by
 have hM:RM ⟨w,fr,G,fun _=>undef,vals.take np⟩ (gh0 G 0) ⟨[],[],[],[]⟩ w:=⟨Moved.refl _ _,hG,fun _ _ _ h=>h,fun b o v hv=>⟨Ayq hG hv,by
   cases e:fr b with
   |none=>exact e
   |some x=>have h1:=hfr b (by rw[e];rfl) o;have h2:G b o=some v:=hv;rw[h1]at h2;cases h2⟩,fun k cs hk=>by simp[St.bx,Ch]at hk,fun i j hi=>by simp[St.has,St.bx,Ch]at hi,fun k o hk=>by simp[St.has,St.bx,Ch]at hk,fun t ht=>by simp at ht,fun t u ht=>by simp at ht,fun t k ht=>by simp at ht,List.nodup_nil,fun b o v hv=>.inl hv⟩
 obtain⟨gh,M1,E1,B1,L1⟩:=Akg (i:=0) (n:=An4) hms hv hM hl (fun b o hb=>⟨.inr (by show(fr b).isSome=true;rw[hb];rfl),fun t ht=>by simp at ht,fun k hk=>by simp[St.has,St.bx,Ch]at hk,fun o'=>hfr b (by rw[hb];rfl) o'⟩) (fun t _ ht=>by simp at ht)
 have hst:E9 ms as={Mz ⟨[],[],[],[]⟩ (Cg 0 An4 ms as).2.2 with env:=(Cg 0 An4 ms as).1}:=by
  simp[E9,Mz,B1]
 have hX:Ext gh (Mz ⟨[],[],[],[]⟩ (Cg 0 An4 ms as).2.2) gh (E9 ms as):=by
  rw[hst]
  exact⟨fun _ _ _ h=>h,fun _ _=>rfl,fun _ h=>h,fun _ h=>h,fun t h _=>⟨h,rfl,rfl,rfl,fun _ _ _=>rfl⟩⟩
 refine⟨gh,?_,by simp;have:=Ayp hv;omega,rfl,fun i=>?_,fun i v hi=>Ayr _ _ _ _ _ hi⟩
 ·rw[hst]
  exact⟨M1.moved,M1.lies,M1.g0,M1.old,fun k cs hk=>by simp[St.bx,Ch,Mz]at hk,fun i j hi=>by simp[St.has,St.bx,Ch,Mz]at hi,fun k o hk=>by simp[St.has,St.bx,Ch,Mz]at hk,M1.tok,M1.apart,fun t k _ hk=>by simp[St.has,St.bx,Ch,Mz]at hk,M1.nodup,M1.new⟩
 ·have:=L1 (List.replicate (nt-vals.length) undef) i (Nat.zero_le _)
  rw[Aof]
  have h2:=this.ext hX
  have hg:(E9 ms as).get i=look i (Cg 0 An4 ms as).1:=rfl
  rw[hg];exact h2
theorem A12: ∀ {a b:List RV} {vs us:List Value} {f:Aa},a.length=vs.length→OVt f (a++b) (vs++us)→ ∃f1 f2,Dr f [f1,f2]∧OVt f1 a vs∧OVt f2 b us
 |[],b,[],us,f,_,h=>⟨Aa.emp,f,⟨List.pairwise_cons.2 ⟨fun x _=>Aa.emp_apart x,List.pairwise_singleton _ _⟩,fun x hx=>by
   simp at hx
   rcases hx with rfl|rfl
   ·exact Aa.emp_sub _
   ·exact Aa.sub_refl _⟩,trivial,h⟩
 |x::a,b,v::vs,us,f,hl,⟨p,q,hp,h1,h2⟩=>by
  obtain⟨f1,f2,k1,k2,k3⟩:=A12 (by simpa using hl) h2
  have a1:f1.sub q:=k1.2 f1 (by simp)
  have a2:f2.sub q:=k1.2 f2 (by simp)
  have hpq:p.apart q:=(List.pairwise_cons.1 hp.1).1 q (by simp)
  have h12:f1.apart f2:=(List.pairwise_cons.1 k1.1).1 f2 (by simp)
  have hpf:p.apart f1:=Aa.apart_sub hpq (Aa.sub_refl _) a1
  refine⟨p.join f1,f2,⟨List.pairwise_cons.2 ⟨fun z hz=>?_,List.pairwise_singleton _ _⟩,fun z hz=>?_⟩,⟨p,f1,Dr.two hpf,h1,k2⟩,k3⟩
  ·simp at hz;subst hz
   exact Aa.join_apart (Aa.apart_sub hpq (Aa.sub_refl _) a2) h12
  ·simp at hz
   rcases hz with rfl|rfl
   ·exact Aa.join_sub (hp.2 p (by simp)) (Aa.sub_trans a1 (hp.2 q (by simp)))
   ·exact Aa.sub_trans a2 (hp.2 q (by simp))
 |[],_,_::_,_,_,h,_=>by simp at h
 |_::_,_,[],_,_,h,_=>by simp at h
theorem VRt.app {cx:Cx} {g:Gh} {st:St}: ∀ {a b:List (Bool×List Cl)} {vs us:List Value},VRt cx g st a vs→VRt cx g st b us→VRt cx g st (a++b) (vs++us)
 |[],_,[],_,_,h=>h
 |_::_,_,_::_,_,h,h'=>⟨h.1,h.2.app h'⟩
 |[],_,_::_,_,h,_=>h.elim
 |_::_,_,[],_,h,_=>h.elim
theorem VRt.len {cx:Cx} {g:Gh} {st:St}: ∀ {a:List (Bool×List Cl)} {vs:List Value},VRt cx g st a vs→a.length=vs.length
 |[],[],_=>rfl
 |_::_,_::_,h=>by simp[VRt.len h.2]
 |[],_::_,h=>h.elim
 |_::_,[],h=>h.elim
theorem A13 {cx:Cx} {nt:Nat} {g:Gh} {st:St} {a:Act} (hE:Env nt cx g st a): ∀ {ms:List Nat} {vals:List Value} {i:Nat} {m:List (Bool×List Cl)},(∀j v,vals[j]? =some v→j<ms.length→a.tmps.getD (i+j) undef=v)→ms.length≤vals.length→Asr st i ms=some m→
  ∃us,VRt cx g st m us∧ ∀f,OVt f (m.map strip) us→MOa f ms (m.map strip) vals
 |[],vals,i,m,_,_,h=>by
  simp[Asr]at h;subst h
  refine⟨[],trivial,fun f _=>?_⟩
  have key: ∀(vals:List Value) (f:Aa),MOa f [] [] vals:=by
   intro vals
   induction vals with
   |nil=>intro f;rfl
   |cons v vals ih=>intro f;exact ih f
  exact key vals f
 |m0::ms,[],i,m,_,hl,h=>by simp at hl
 |m0::ms,v::vals,i,m,hv,hl,h=>by
  simp only[Asr]at h
  obtain⟨r,hr,h2⟩:=Af h
  clear h
  have h:cond (Nat.beq m0 1) (match st.get i with| .v a xs=>some ((a,xs)::r)|_=>none) (some r)=some m:=h2
  clear h2
  obtain⟨us,k1,k2⟩:=A13 hE (vals:=vals) (i:=i+1) (fun j u hj hlt=>by have:=hv (j+1) u (by simpa using hj) (by simp;omega);rw[show i+1+j=i+(j+1) by omega];exact this) (by simpa using hl) hr
  cases hb:Nat.beq m0 1 with
  |true=>
   rw[hb]at h
   simp only[cond_true]at h
   have e:=Nat.eq_of_beq_eq_true hb
   subst e
   cases hg:st.get i with
   |v ag xs=>
    rw[hg]at h
    simp at h;subst h
    have h0:=hE.2.2.1 i
    rw[hg]at h0
    have h1:=hv 0 v rfl (by simp)
    rw[Nat.add_zero]at h1
    rw[h1]at h0
    refine⟨v::us,⟨h0,k1⟩,fun f hf=>?_⟩
    obtain⟨p,q,hp,o1,o2⟩:=hf
    exact⟨p,q,hp,o1,k2 q o2⟩
   |any=>rw[hg]at h;cases h
   |box _ _=>rw[hg]at h;cases h
   |el _ _ _=>rw[hg]at h;cases h
   |tup _=>rw[hg]at h;cases h
  |false=>
   rw[hb]at h
   simp at h;subst h
   refine⟨us,k1,fun f hf=>?_⟩
   have hne:m0≠1:=fun e=>by subst e;cases hb
   have hrest:=k2 f hf
   unfold MOa
   simp only[List.headD_cons,List.tail_cons]
   split
   ·exact(hne rfl).elim
   ·exact(hne rfl).elim
   ·exact hrest
end Go.Proofs.YtmhhajdeafijmaaGreat
namespace Go.Proofs.YtmhhajdeafijmaaGreat
open Go.RowKit
set_option linter.unusedVariables false
set_option linter.unusedSectionVars false
set_option linter.unusedSimpArgs false

def Aog (vs:List Value):Value:=if vs.length=1 then vs.headD undef else .tuple vs.toArray
theorem Ak6 {P:Program} {fn:Func} {a:Act} {w:World} {vs:List Value} (h1:(fn.results.toList.mapM (Adj a.tmps)).run P w= .ok vs w):(results fn a.tmps).run P w= .ok (Aog vs) w:=by
 rw[A4a,Sem.run_bind,Array.mapM_eq_mapM_toList]
 simp only[Sem.run_map,h1,Result.andThen_ok,Sem.run_pure]
 congr 1
 unfold Aog
 by_cases h1':vs.length=1
 ·have h2':vs.toArray.size=1:=by simpa using h1'
  rw[if_pos h1',dif_pos h2']
  match vs,h1' with
  |[v],_=>rfl
 ·have h2': ¬vs.toArray.size=1:=by simpa using h1'
  rw[if_neg h1',dif_neg h2']
theorem CRs.rvs {cx:Cx} {g:Gh} {st:St}: ∀ {xs:List Cl} {vs:List Value},CRs cx g st xs vs→RVs g.G (xs.map fun c=>⟨c.sh,c.val⟩) vs
 |[],[],_=>trivial
 |x::xs,v::vs,h=>⟨h.1.1,CRs.rvs h.2⟩
 |[],_::_,h=>h.elim
 |_::_,[],h=>h.elim
theorem VRv.rvv {cx:Cx} {g:Gh} {st:St} {p:Bool×List Cl} {v:Value} (h:VRv cx g st p.1 p.2 v):RVv g.G (strip p) v:=by
 obtain⟨a,xs⟩:=p
 cases a with
 |true=>obtain⟨vs,e,h⟩:=h;exact⟨vs,e,h.rvs⟩
 |false=>exact CRs.rvs (vs:=[v]) h
theorem VRt.rva {cx:Cx} {g:Gh} {st:St}: ∀ {l:List (Bool×List Cl)} {vs:List Value},VRt cx g st l vs→RVa g.G (l.map strip) vs
 |[],[],_=>trivial
 |x::xs,v::vs,h=>⟨VRv.rvv h.1,VRt.rva h.2⟩
 |[],_::_,h=>h.elim
 |_::_,[],h=>h.elim
theorem Ays {G:A6} {l:List RV} {vs:List Value} (h:RVa G l vs):Rv G l (Aog vs):=by
 match l,vs,h with
 |[],[],h=>exact⟨[],rfl,trivial⟩
 |[r],[v],h=>exact h.1
 |r::s::t,v::u::vs,h=>exact⟨v::u::vs,rfl,h⟩
 |[],_::_,h=>exact h.elim
 |_::_,[],h=>exact h.elim
 |[_],_::_::_,h=>exact h.2.elim
 |_::_::_,[_],h=>exact h.2.elim
theorem Aoh {l:List RV} {vs:List Value} {F:Aa} (o1:OVt F l vs):L4 l (Aog vs) F:=by
 unfold Aog
 cases l with
 |nil=>
  cases vs with
  |nil=>exact⟨[],rfl,o1⟩
  |cons _ _=>exact o1.elim
 |cons x l=>
  cases l with
  |nil=>
   cases vs with
   |nil=>exact o1.elim
   |cons v vs=>
    cases vs with
    |nil=>
     obtain⟨p,q,hp,hO,_⟩:=o1
     have hx:L4 [x] v F:=OVv.sub hO (hp.2 p (by simp))
     simpa using hx
    |cons _ _=>obtain⟨_,_,_,_,h⟩:=o1;exact h.elim
  |cons y l=>
   cases vs with
   |nil=>exact o1.elim
   |cons v vs=>
    cases vs with
    |nil=>obtain⟨_,_,_,_,h⟩:=o1;exact h.elim
    |cons u vs=>exact⟨v::u::vs,by simp,o1⟩
theorem M0: ∀ {n:Nat} {cs:List Cl},Lf n cs=true→ ∀(j:Nat) (x:Cl),cs[j]? =some x→D4 x.sh=true→x.tok= .pin (n+j)
 |n,[],_,j,x,h,_=>by simp at h
 |n,⟨.sl e cs,d,tk⟩::r,h,j,x,hx,hs=>by
  cases tk with
  |pin q=>
   simp only[Lf,Bool.and_eq_true]at h
   cases j with
   |zero=>simp at hx;subst hx;rw[Nat.add_zero,Nat.eq_of_beq_eq_true h.1]
   |succ j=>simp at hx;have:=M0 h.2 j x hx hs;rw[this];congr 1;omega
  |_=>simp[Lf]at h
 |n,⟨.int k,d,tk⟩::r,h,j,x,hx,hs=>by
  simp only[Lf]at h
  cases j with
  |zero=>simp at hx;subst hx;cases hs
  |succ j=>simp at hx;have:=M0 h j x hx hs;rw[this];congr 1;omega
 |n,⟨.bool,d,tk⟩::r,h,j,x,hx,hs=>by
  simp only[Lf]at h
  cases j with
  |zero=>simp at hx;subst hx;cases hs
  |succ j=>simp at hx;have:=M0 h j x hx hs;rw[this];congr 1;omega
 |n,⟨.str,d,tk⟩::r,h,j,x,hx,hs=>by
  simp only[Lf]at h
  cases j with
  |zero=>simp at hx;subst hx;cases hs
  |succ j=>simp at hx;have:=M0 h j x hx hs;rw[this];congr 1;omega
 |n,⟨.junk,d,tk⟩::r,h,j,x,hx,hs=>by
  simp only[Lf]at h
  cases j with
  |zero=>simp at hx;subst hx;cases hs
  |succ j=>simp at hx;have:=M0 h j x hx hs;rw[this];congr 1;omega
theorem Pf: ∀ {cs:List Cl},Nr cs=true→ ∀(j:Nat) (x:Cl),cs[j]? =some x→D4 x.sh=true→U6 x.tok=true
 |[],_,j,x,h,_=>by simp at h
 |⟨.sl e cs,d,tk⟩::r,h,j,x,hx,hs=>by
  simp only[Nr,Bool.and_eq_true]at h
  cases j with
  |zero=>simp at hx;subst hx;exact h.1
  |succ j=>simp at hx;exact Pf h.2 j x hx hs
 |⟨.int k,d,tk⟩::r,h,j,x,hx,hs=>by
  simp only[Nr]at h
  cases j with
  |zero=>simp at hx;subst hx;cases hs
  |succ j=>simp at hx;exact Pf h j x hx hs
 |⟨.bool,d,tk⟩::r,h,j,x,hx,hs=>by
  simp only[Nr]at h
  cases j with
  |zero=>simp at hx;subst hx;cases hs
  |succ j=>simp at hx;exact Pf h j x hx hs
 |⟨.str,d,tk⟩::r,h,j,x,hx,hs=>by
  simp only[Nr]at h
  cases j with
  |zero=>simp at hx;subst hx;cases hs
  |succ j=>simp at hx;exact Pf h j x hx hs
 |⟨.junk,d,tk⟩::r,h,j,x,hx,hs=>by
  simp only[Nr]at h
  cases j with
  |zero=>simp at hx;subst hx;cases hs
  |succ j=>simp at hx;exact Pf h j x hx hs
theorem Ba6 {cx:Cx} {g:Gh} {st:St} {x:Cl} {v:Value} (h:CR cx g st x v) (hr:D4 x.sh=true→U6 x.tok=true):RdD cx.G0 x.sh x.val v:=by
 obtain⟨h1,h2⟩:=h
 cases hs:D4 x.sh with
 |false=>exact RdD.scalar hs h1
 |true=>
  have hr:=hr hs
  obtain⟨sh,val,tok⟩:=x
  cases tok with
  |ro=>exact h2
  |pin j=>exact h2.1
  |nil=>
   cases sh with
   |sl e cs=>obtain⟨a,ha⟩:=h2 e cs rfl;exact Aj6 h1 ha _
   |_=>cases hs
  |_=>cases hr
theorem Ayt {cx:Cx} {g:Gh} {st:St}: ∀ {cs:List Cl} {vs:List Value},CRs cx g st cs vs→(∀(j:Nat) (x:Cl),cs[j]? =some x→D4 x.sh=true→U6 x.tok=true)→RVs cx.G0 (cs.map fun c=>⟨c.sh,c.val⟩) vs
 |[],[],_,_=>trivial
 |x::xs,v::vs,h,hr=>⟨Ba6 h.1 (hr 0 x rfl),Ayt h.2 (fun j y hj=>hr (j+1) y (by simpa using hj))⟩
 |[],_::_,h,_=>h.elim
 |_::_,[],h,_=>h.elim
theorem Ayu {cx:Cx} {g:Gh} {st:St} (hs:cx.G0.sub g.G): ∀ {xs:List Sg} {vs:List Value} {n:Nat},RVs cx.G0 xs vs→(∀j v,vs[j]? =some v→cx.P (n+j)=v)→CRs cx g st ((xs.zipIdx n).map fun(s,j)=>⟨s.sh,s.val,Ie s.sh (.pin j)⟩) vs
 |[],[],n,_,_=>trivial
 |x::xs,v::vs,n,h,hP=>by
  simp only[List.zipIdx_cons,List.map_cons]
  refine⟨⟨RdD.sub hs _ _ _ h.1,?_⟩,Ayu hs h.2 (fun j u hj=>by have:=hP (j+1) u (by simpa using hj);rw[show n+1+j=n+(j+1) by omega];exact this)⟩
  obtain⟨s,d⟩:=x
  cases s with
  |sl e cs=>exact⟨h.1,(hP 0 v rfl).symm⟩
  |_=>intro _ _ e;cases e
 |[],_::_,_,h,_=>h.elim
 |_::_,[],_,h,_=>h.elim
theorem A14 {cx:Cx} {g:Gh} {st:St} {G:A6} (hG:cx.G0=G) (hs:cx.G0.sub g.G) {b:Nat} {vs0:List Value}: ∀ {as:List RV} {ms:List Nat} {vals:List Value} {i n:Nat},(ms.all fun m=>Nat.beq m 0)=true→BVa G b vs0 ms as vals→
  (Cg i n ms as).2=([],[])∧ ∀(rest:List Value) j,i≤j→VR cx g st (look j (Cg i n ms as).1) ((vals++rest).getD (j-i) undef)
 |[],ms,[],i,n,_,_=>⟨rfl,fun rest j _=>trivial⟩
 |(a,xs)::as,ms,v::vals,i,n,hz,⟨h1,h2⟩=>by
  have h0:ms.headD 0=0:=by
   cases ms with
   |nil=>rfl
   |cons m r=>simp only[List.all_cons,Bool.and_eq_true]at hz;exact Nat.eq_of_beq_eq_true hz.1
  have ht:(ms.tail.all fun m=>Nat.beq m 0)=true:=by
   cases ms with
   |nil=>rfl
   |cons m r=>simp only[List.all_cons,Bool.and_eq_true]at hz;exact hz.2
  have hsp:Cg i n ms ((a,xs)::as)=((i,.v a (xs.map fun s=>⟨s.sh,s.val,An2 s.sh⟩))::(Cg (i+1) n ms.tail as).1,(Cg (i+1) n ms.tail as).2):=by
   simp only[Cg,h0]
  rw[hsp]
  rw[if_neg (by omega)]at h1
  obtain⟨k1,k2⟩:=A14 (i:=i+1) (n:=n) hG hs ht h2
  refine⟨k1,fun rest j hj=>?_⟩
  rw[C0]
  by_cases hji:j=i
  ·subst hji
   rw[if_pos rfl]
   simp only[Nat.sub_self,List.cons_append,List.getD_cons_zero]
   exact Ayo hs (by rw[hG];exact h1)
  ·rw[if_neg hji,List.cons_append,Ul _ _ _ _ (by omega)]
   exact k2 rest j (by omega)
 |[],_,_::_,_,_,_,h=>h.elim
 |_::_,_,[],_,_,_,h=>h.elim
theorem A6d {cx:Cx} {g:Gh} {st:St} {G:A6} (hG:cx.G0=G) (hs:cx.G0.sub g.G) {b:Nat} {vs0:List Value} (hgB: ∀k,g.B k=b): ∀ {as:List RV} {ms:List Nat} {vals:List Value} {i n:Nat},Ada ms=true→BVa G b vs0 ms as vals→
  as=[]∨(ms.length≤as.length→ ∃p xs,(Cg i n ms as).2=([(p,(xs.zipIdx.map fun(s,j)=>⟨s.sh,s.val,Ie s.sh (.pin j)⟩))],[])∧RVs G xs vs0∧i≤p∧vals[p-i]? =some (.pointer (some ⟨b,0,none⟩))∧p-i<ms.length∧
   ∀(rest:List Value) j,i≤j→(st.has p=true→VR cx g st (look j (Cg i n ms as).1) ((vals++rest).getD (j-i) undef)))
 |[],ms,[],i,n,_,_=>.inl rfl
 |(a,xs)::as,ms,v::vals,i,n,hz,⟨h1,h2⟩=>by
  right
  intro hlen
  cases ms with
  |nil=>cases hz
  |cons m r=>
  simp only[Ada]at hz
  cases h3:Nat.beq m 3 with
  |true=>
   rw[h3]at hz
   have e:=Nat.eq_of_beq_eq_true h3
   subst e
   rw[if_pos (show(3::r).headD 0=3 from rfl)]at h1
   obtain⟨rfl,hxs⟩:=h1
   obtain⟨k1,k2⟩:=A14 (st:=st) (i:=i+1) (n:=n) hG hs hz h2
   have hsp:Cg i n (3::r) ((a,xs)::as)=((i,.box i 0)::(Cg (i+1) n r as).1,(i,xs.zipIdx.map fun(s,j)=>⟨s.sh,s.val,Ie s.sh (.pin j)⟩)::(Cg (i+1) n r as).2.1,(Cg (i+1) n r as).2.2):=rfl
   rw[hsp]
   have k1:(Cg (i+1) n r as).2=([],[]):=k1
   refine⟨i,xs,by simp only[k1],hxs,Nat.le_refl _,by simp,by simp,fun rest j hj hh=>?_⟩
   rw[C0]
   by_cases hji:j=i
   ·subst hji
    rw[if_pos rfl]
    simp only[Nat.sub_self,List.cons_append,List.getD_cons_zero]
    exact⟨hh,by rw[hgB]⟩
   ·rw[if_neg hji,List.cons_append,Ul _ _ _ _ (by omega)]
    exact k2 rest j (by omega)
  |false=>
   rw[h3]at hz
   simp only[cond_false]at hz
   cases h0:Nat.beq m 0 with
   |false=>rw[h0]at hz;cases hz
   |true=>
    rw[h0]at hz
    have e:=Nat.eq_of_beq_eq_true h0
    subst e
    rw[if_neg (show ¬((0::r).headD 0=3) by simp)]at h1
    have hsp:Cg i n (0::r) ((a,xs)::as)=((i,.v a (xs.map fun s=>⟨s.sh,s.val,An2 s.sh⟩))::(Cg (i+1) n r as).1,(Cg (i+1) n r as).2):=rfl
    rw[hsp]
    rcases A6d (st:=st) hG hs hgB (i:=i+1) (n:=n) hz h2 with q|q
    ·subst q
     simp only[List.tail_cons]at h2
     cases r with
     |nil=>cases hz
     |cons _ _=>simp at hlen
    ·simp only[List.tail_cons]at q
     obtain⟨p,xs',q1,q2,q3,q4,q5,q6⟩:=q (by simpa using hlen)
     refine⟨p,xs',q1,q2,by omega,?_,by simp;omega,fun rest j hj hh=>?_⟩
     ·rw[show p-i=(p-(i+1))+1 by omega];simpa using q4
     ·rw[C0]
      by_cases hji:j=i
      ·subst hji
       rw[if_pos rfl]
       simp only[Nat.sub_self,List.cons_append,List.getD_cons_zero]
       exact Ayo hs (by rw[hG];exact h1)
      ·rw[if_neg hji,List.cons_append,Ul _ _ _ _ (by omega)]
       exact q6 rest j (by omega) hh
 |[],_,_::_,_,_,_,h=>h.elim
 |_::_,_,[],_,_,_,h=>h.elim
theorem A6e {G:A6} {b:Nat} {vs0:List Value}: ∀ {as:List RV} {ms:List Nat} {vals:List Value},BVa G b vs0 ms as vals→as.length=vals.length
 |[],_,[],_=>rfl
 |_::_,_,_::_,h=>by simp[A6e h.2]
 |[],_,_::_,h=>h.elim
 |_::_,_,[],h=>h.elim
theorem A15 {pinned:Bool} {st:St}: ∀ {i:Nat} {ms:List Nat} {o:List RV},Aj4 pinned st i ms=some o→o=[]∨ ∃j cs,i≤j∧j-i<ms.length∧ms[j-i]? =some 3∧st.get j= .box j 0∧st.bx j=some cs∧cond pinned (Lf 0 cs) (Nr cs)=true∧o=[strip (true,cs)]
 |i,[],o,h=>by simp[Aj4]at h;exact .inl h
 |i,m::ms,o,h=>by
  simp only[Aj4]at h
  cases h3:Nat.beq m 3 with
  |true=>
   rw[h3]at h
   simp only[cond_true]at h
   right
   have e:=Nat.eq_of_beq_eq_true h3
   cases hg:st.get i with
   |box j off=>
    rw[hg]at h
    cases off with
    |succ off=>cases h
    |zero=>
     obtain⟨hij,h2⟩:=A7 h
     obtain⟨cs,hcs,h4⟩:=Af h2
     obtain⟨hc,h5⟩:=A7 h4
     simp at h5
     have hij:=Nat.eq_of_beq_eq_true hij
     exact⟨i,cs,Nat.le_refl _,by simp,by simp[e],by rw[hg,hij],hcs,hc,h5.symm⟩
   |any=>rw[hg]at h;cases h
   |v _ _=>rw[hg]at h;cases h
   |el _ _ _=>rw[hg]at h;cases h
   |tup _=>rw[hg]at h;cases h
  |false=>
   rw[h3]at h
   simp only[cond_false]at h
   rcases A15 h with q|⟨j,cs,q1,q2,q3,q4⟩
   ·exact .inl q
   ·right
    refine⟨j,cs,by omega,by simp;omega,?_,q4⟩
    rw[show j-i=(j-(i+1))+1 by omega];simpa using q3
section
variable {P:Program} {g:Cfg} (hC:CfgOk P g) {np:Nat} {Λ:Fy} {f:FuncId} {fn:Func} (hf:P.funcs[f]? =some fn) (hL: ∀cx b,cx.pin.length≤np→b∈Bx (fn.body.getD .skip)→D6 P cx fn.ntmps Λ b)
include hC hf hL
theorem A8b {kd:Kind} {F:Ax} (hF: ∀as res,(F as).val=some res→H9 g np Λ fn kd as=some res):A31 P f kd F:=by
 have hfin: ∀ {cx:Cx} {gh:Gh} {st':St} {a':Act} {w':World} {l:List (Bool×List Cl)} {m:List (Bool×List Cl)} {us:List Value} {ate live':List Nat},RM cx gh st' w'→Env fn.ntmps cx gh st' a'→H8 g st' fn.results.toList=some l→VRt cx gh st' m us→J7 (l++m)=some ate→eat st'.live ate=some live'→
   ∃vs f1 f2,(results fn a'.tmps).run P w'= .ok (Aog vs) w'∧Bi f1 w'∧Bi f2 w'∧f1.apart f2∧(∀b o,f1 b=some o∨f2 b=some o→Fb cx b∧ ∀k,st'.has k=true→gh.B k≠b)∧OVt f1 (l.map strip) vs∧OVt f2 (m.map strip) us:=by
  intro cx gh st' a' w' l m us ate live' hm en hl hmm hgv hea
  obtain⟨vs,h1,h2⟩:=Uk hC hm en hl
  obtain⟨F,o1,o2,o3,o4⟩:=Ara hm (fun _ h=>h) hm.nodup (h2.app hmm) hgv hea
  rw[List.map_append]at o1
  obtain⟨f1,f2,k1,k2,k3⟩:=A12 (by simpa using h2.len) o1
  have hlf:Bi F w':=fun b o hb=>by obtain⟨t,t1,_,t3⟩:=o4 b o hb;exact(hm.tok t t1).2.1 b o t3
  have hmine: ∀b o,F b=some o→Fb cx b∧ ∀k,st'.has k=true→gh.B k≠b:=fun b o hb=>by
   obtain⟨t,t1,_,t3⟩:=o4 b o hb
   refine⟨(hm.tok t t1).2.2 b o t3,fun k hk he=>?_⟩
   have:=hm.tokBox t k t1 hk
   rw[he,t3]at this;cases this
  have s1:=k1.2 f1 (by simp)
  have s2:=k1.2 f2 (by simp)
  refine⟨vs,f1,f2,Ak6 h1,hlf.sub s1,hlf.sub s2,(List.pairwise_cons.1 k1.1).1 f2 (by simp),fun b o hb=>?_,k2,k3⟩
  rcases hb with hb|hb
  ·exact hmine b o (s1 b o hb)
  ·exact hmine b o (s2 b o hb)
 cases kd with
 |plain=>
  intro as res vals w G h hG hvals
  have h:=hF as res h
  simp only[H9]at h
  obtain⟨hle,h⟩:=A7 h
  have hle:=Nat.le_of_ble_eq_true hle
  obtain⟨c,hc,h⟩:=Af h
  refine calls_of_wp hf hc ?_
  obtain⟨gh,hM,hE⟩:=Aaf np fn.ntmps (ms:=[]) rfl hG (Bi.emp w) (fun b hb=>by cases hb) (Ak5 hvals) hle
  refine Rx hC (by simp;omega) hM hE h (fun b hb=>hL _ b (by simp;omega) (by simp[hc,hb])) (fun e gh' st' a' w' m en hr=>?_)
  have fin: ∀l,H8 g st' fn.results.toList=some l→(ob (J7 l) fun a=>ob (eat st'.live a) fun _=>some (l.map strip,([]:List RV)))=some res→a'.defers=[]∧ ∃v,(results fn a'.tmps).run P w'= .ok v w'∧Rp w (L4 res.1) (.returned v) w':=by
   intro l hl hgv0
   obtain⟨ate,hgv,hgv1⟩:=Af hgv0
   obtain⟨live',hea,hres⟩:=Af hgv1
   simp at hres;subst hres
   obtain⟨vs,f1,f2,k1,k2,k3,k4,k5,k6,k7⟩:=hfin (m:=[]) (us:=[]) m en hl trivial (by simpa using hgv) hea
   refine⟨en.2.1,_,k1,Rp.mk f1 (Moved.grew m.moved (Co.refl w) (Aa.from_emp _)) k2 (fun b o hb=>?_) (Aoh k6)⟩
   rcases(k5 b o (.inl hb)).1 with q|q
   ·exact q
   ·cases q
  cases e with
  |exit i=>simp at hr
  |normal=>obtain⟨l,hl,hr⟩:=Af hr;exact fin l hl hr
  |ret=>obtain⟨l,hl,hr⟩:=Af hr;exact fin l hl hr
 |view=>
  intro as res vals w G h hG hvals
  have h:=hF as res h
  simp only[H9]at h
  obtain⟨hle,h⟩:=A7 h
  have hle:=Nat.le_of_ble_eq_true hle
  obtain⟨c,hc,h⟩:=Af h
  refine calls_of_wp hf hc ?_
  obtain⟨gh,hM,hE⟩:=Aaf np fn.ntmps (ms:=[]) rfl hG (Bi.emp w) (fun b hb=>by cases hb) (Ak5 hvals) hle
  refine Rx hC (by simp;omega) hM hE h (fun b hb=>hL _ b (by simp;omega) (by simp[hc,hb])) (fun e gh' st' a' w' m en hr=>?_)
  have fin: ∀l,H8 g st' fn.results.toList=some l→some (l.map strip,([]:List RV))=some res→a'.defers=[]∧ ∃v,(results fn a'.tmps).run P w'= .ok v w'∧ ∃v' G',(Ending.returned v)= .returned v'∧Co w w'∧Em G' w'∧G.sub G'∧(∀b o x,G' b o=some x→G b o=some x∨w.heap.size≤b)∧Rv G' res.1 v':=by
   intro l hl hres
   simp at hres;subst hres
   obtain⟨vs,h1,h2⟩:=Uk hC m en hl
   refine⟨en.2.1,_,Ak6 h1,_,gh'.G,rfl,Moved.grew m.moved (Co.refl w) (Aa.from_emp _),m.lies,m.g0,fun b o x hx=>?_,Ays h2.rva⟩
   rcases m.new b o x hx with q|q|q
   ·exact .inl q
   ·exact .inr q
   ·cases q
  cases e with
  |exit i=>simp at hr
  |normal=>obtain⟨l,hl,hr⟩:=Af hr;exact fin l hl hr
  |ret=>obtain⟨l,hl,hr⟩:=Af hr;exact fin l hl hr
 |ret=>
  intro as res vals w G h hG hvals
  have h:=hF as res h
  simp only[H9]at h
  obtain⟨hle,h⟩:=A7 h
  have hle:=Nat.le_of_ble_eq_true hle
  obtain⟨c,hc,h⟩:=Af h
  refine calls_of_wp hf hc ?_
  obtain⟨gh,hM,hE⟩:=Aaf np fn.ntmps (ms:=[]) rfl hG (Bi.emp w) (fun b hb=>by cases hb) (Ak5 hvals) hle
  refine Rx hC (by simp;omega) hM hE h (fun b hb=>hL _ b (by simp;omega) (by simp[hc,hb])) (fun e gh' st' a' w' m en hr=>?_)
  have fin:(match fn.results.toList with
   |[.tmp t]=>match st'.get t with
    | .box b 0=>ob (st'.bx b) fun cs=>chk (Nr cs) (some ([strip (true,cs)],([]:List RV)))
    |_=>none
   |_=>none)=some res→a'.defers=[]∧ ∃v,(results fn a'.tmps).run P w'= .ok v w'∧ ∃b vs ty ag r,(Ending.returned v)= .returned (.pointer (some ⟨b,0,none⟩))∧Co w w'∧w.heap.size≤b∧w'.heap[b]? =some (.cells (vs:List Value).toArray ty (0,0))∧res.1=[(ag,r)]∧RVs G r vs:=by
   intro hr
   split at hr
   ·rename_i t hrs
    split at hr
    ·rename_i b hg
     obtain⟨cs,hcs,hr⟩:=Af hr
     obtain⟨hro,hr⟩:=A7 hr
     simp at hr;subst hr
     have hv:=en.2.2.1 t
     rw[hg]at hv
     obtain⟨vs,e,g1,g2,g3⟩:=m.box b cs hcs
     refine⟨en.2.1,Aog [a'.tmps.getD t undef],Ak6 (by rw[hrs];simp[List.mapM_cons,Sem.run_bind,Adj]),gh'.B b,vs,e,true,_,?_,Moved.grew m.moved (Co.refl w) (Aa.from_emp _),?_,g1,rfl,Ayt g3 (Pf hro)⟩
     ·rw[hv.2];rfl
     ·rcases g2 with q|q
      ·exact q
      ·cases q
    ·cases hr
   ·cases hr
  cases e with
  |exit i=>simp at hr
  |normal=>exact fin hr
  |ret=>exact fin hr
 |lend ms=>
  intro as res vals w G fr h hG hlfr hfr hava
  have h:=hF as res h
  simp only[H9]at h
  obtain⟨hle,h⟩:=A7 h
  simp only[Bool.and_eq_true]at hle
  obtain⟨⟨⟨hle1,hle2⟩,hle3⟩,hle4⟩:=hle
  have hle2:=Nat.le_of_ble_eq_true hle2
  have hle3:=Nat.le_of_ble_eq_true hle3
  have hle4:=Nat.le_of_ble_eq_true hle4
  obtain⟨c,hc,h⟩:=Af h
  refine calls_of_wp hf hc ?_
  have hlen:=Ayp hava
  obtain⟨gh,hM,hE⟩:=Aaf np fn.ntmps hle1 hG hlfr hfr hava hle2
  refine Rx hC (by simp;omega) hM hE h (fun b hb=>hL _ b (by simp;omega) (by simp[hc,hb])) (fun e gh' st' a' w' m en hr=>?_)
  have fin: ∀l,H8 g st' fn.results.toList=some l→(ob (Asr st' 0 ms) fun m=>ob (J7 (l++m)) fun a=>ob (eat st'.live a) fun _=>some (l.map strip,m.map strip))=some res→a'.defers=[]∧ ∃v,(results fn a'.tmps).run P w'= .ok v w'∧ ∃v1 f g,(Ending.returned v)= .returned v1∧Moved fr w w'∧Bi f w'∧Bi g w'∧f.apart g∧f.newOr fr w.heap.size∧g.newOr fr w.heap.size∧L4 res.1 v1 f∧MOa g ms res.2 vals:=by
   intro l hl hgv0
   obtain⟨mm,hmm,hgv0⟩:=Af hgv0
   obtain⟨ate,hgv,hgv1⟩:=Af hgv0
   obtain⟨live',hea,hres⟩:=Af hgv1
   simp at hres;subst hres
   obtain⟨us,o1,o2⟩:=A13 en (vals:=vals) (fun j v hj hlt=>by rw[Nat.zero_add];exact en.2.2.2 j v (by show(vals.take np)[j]? =_;rw[List.getElem?_take,if_pos (by omega)];exact hj)) (by omega) hmm
   obtain⟨vs,f1,f2,k1,k2,k3,k4,k5,k6,k7⟩:=hfin m en hl o1 hgv hea
   have hno: ∀b o,f1 b=some o∨f2 b=some o→fr b≠none∨w.heap.size≤b:=fun b o hb=>by
    rcases(k5 b o hb).1 with q|q
    ·exact .inr q
    ·left;intro e;have q':(fr b).isSome=true:=q;rw[e]at q';cases q'
   exact⟨en.2.1,_,k1,_,f1,f2,rfl,m.moved,k2,k3,k4,fun b o hb=>hno b o (.inl hb),fun b o hb=>hno b o (.inr hb),Aoh k6,o2 f2 k7⟩
  cases e with
  |exit i=>simp at hr
  |normal=>obtain⟨l,hl,hr⟩:=Af hr;exact fin l hl hr
  |ret=>obtain⟨l,hl,hr⟩:=Af hr;exact fin l hl hr
 |box ms pinned own=>
  intro as res vals w G b vs0 e0 h hG hGb hblk hbva
  have h:=hF as res h
  simp only[H9]at h
  obtain⟨hle,h⟩:=A7 h
  simp only[Bool.and_eq_true]at hle
  obtain⟨⟨⟨hle1,hle2⟩,hle3⟩,hle4⟩:=hle
  have hle2:=Nat.le_of_ble_eq_true hle2
  have hle3:=Nat.le_of_ble_eq_true hle3
  have hle4:=Nat.le_of_ble_eq_true hle4
  obtain⟨c,hc,h⟩:=Af h
  refine calls_of_wp hf hc ?_
  have hlen:=A6e hbva
  let cx:Cx:=⟨w,Aa.one b (.cells vs0.toArray e0 (0,0)),G,fun j=>vs0.getD j undef,vals.take np⟩
  have hb0:b<w.heap.size:=(Array.getElem?_eq_some_iff.1 hblk).1
  rcases A6d (cx:=cx) (g:=gh0 G b) (st:=E9 ms as) (G:=G) rfl (fun _ _ _ h=>h) (fun k=>rfl) (i:=0) (n:=An4) hle1 hbva with q|q
  ·subst q
   cases ms with
   |nil=>cases hle1
   |cons _ _=>simp at hle4
  obtain⟨p,xs,q1,q2,q3,q4,q5,q6⟩:=q hle4
  have hbx:(E9 ms as).boxes=[(p,(xs.zipIdx.map fun(s,j)=>⟨s.sh,s.val,Ie s.sh (.pin j)⟩))]:=by simp only[E9,q1]
  have hlv:(E9 ms as).live=[]∧(E9 ms as).used=[]:=by simp only[E9,q1];exact⟨rfl,rfl⟩
  have hbxk: ∀k cs,(E9 ms as).bx k=some cs→k=p∧cs=(xs.zipIdx.map fun(s,j)=>⟨s.sh,s.val,Ie s.sh (.pin j)⟩):=fun k cs hk=>by
   unfold St.bx at hk
   rw[hbx]at hk
   simp only[Ch]at hk
   cases hkp:Nat.beq k p with
   |true=>rw[hkp]at hk;simp at hk;exact⟨Nat.eq_of_beq_eq_true hkp,hk.symm⟩
   |false=>rw[hkp]at hk;cases hk
  have hhas:(E9 ms as).has p=true:=by unfold St.has St.bx;rw[hbx];simp[Ch]
  have hmine:Fb cx b:=.inr (by show(Aa.one b _ b).isSome=true;rw[Mv];rfl)
  have hM:RM cx (gh0 G b) (E9 ms as) w:=by
   refine⟨Moved.refl _ _,hG,fun _ _ _ h=>h,fun c o v hv=>⟨Ayq hG hv,?_⟩,fun k cs hk=>?_,fun i j hi hj _=>?_,fun k o _=>hGb o,fun t ht=>(by rw[hlv.1]at ht;cases ht),fun t u ht=>(by rw[hlv.1]at ht;cases ht),fun t k ht=>(by rw[hlv.1]at ht;cases ht),(by rw[hlv.1];exact List.nodup_nil),fun b o v hv=>.inl hv⟩
   ·show Aa.one b _ c=none
    simp only[Aa.one]
    rw[if_neg]
    intro e;subst e
    have hv':G c o=some v:=hv
    rw[hGb o]at hv';cases hv'
   ·obtain⟨rfl,rfl⟩:=hbxk k cs hk
    refine⟨vs0,e0,hblk,hmine,Ayu (fun _ _ _ h=>h) q2 (fun j v hj=>?_)⟩
    show vs0.getD (0+j) undef=v
    rw[Nat.zero_add,List.getD_eq_getElem?_getD,hj];rfl
   ·obtain⟨cs,hcs⟩:=Ft hi
    obtain⟨cs',hcs'⟩:=Ft hj
    rw[(hbxk i cs hcs).1,(hbxk j cs' hcs').1]
  have hE:Env fn.ntmps cx (gh0 G b) (E9 ms as) {tmps:=vals.toArray++Array.replicate (fn.ntmps-vals.toArray.size) undef,defers:=[]}:=by
   refine⟨by simp;omega,rfl,fun i=>?_,fun i v hi=>Ayr _ _ _ _ _ hi⟩
   rw[Aof]
   exact q6 (List.replicate (fn.ntmps-vals.length) undef) i (Nat.zero_le _) hhas
  refine Rx hC (by simp[cx];omega) hM hE h (fun b hb=>hL _ b (by simp[cx];omega) (by simp[hc,hb])) (fun e gh' st' a' w' m en hr=>?_)
  have fin: ∀l,H8 g st' fn.results.toList=some l→(ob (cond own (ob (J7 l) fun a=>eat st'.live a) (some [])) fun _=>ob (Aj4 pinned st' 0 ms) fun o=>some (l.map strip,o))=some res→a'.defers=[]∧ ∃v,(results fn a'.tmps).run P w'= .ok v w'∧
    ∃v1 vs1 e1 ag new,(Ending.returned v)= .returned v1∧Moved (Aa.one b (.cells vs0.toArray e0 (0,0))) w w'∧(own=true→ ∃f,Bi f w'∧f.from_ w.heap.size∧L4 res.1 v1 f)∧(own=false→ ∃G':A6,Em G' w'∧G.sub G'∧(∀c o x,G' c o=some x→G c o=some x∨w.heap.size≤c)∧Rv G' res.1 v1)∧w'.heap[b]? =some (.cells (vs1:List Value).toArray e1 (0,0))∧
     res.2=[(ag,new)]∧RVs G new vs1∧(pinned=true→ ∀(j:Nat) (s:Sg),(new:List Sg)[j]? =some s→D4 s.sh=true→vs1[j]? =vs0[j]?):=by
   intro l hl hgv0
   obtain⟨live',hgv1,hgv2⟩:=Af hgv0
   obtain⟨oo,hoo,hres⟩:=Af hgv2
   simp at hres;subst hres
   have hsome: ∃j cs,j<ms.length∧ms[j]? =some 3∧st'.get j= .box j 0∧st'.bx j=some cs∧cond pinned (Lf 0 cs) (Nr cs)=true∧oo=[strip (true,cs)]:=by
    rcases A15 hoo with z|⟨j,cs,z1,z2,z3,z4⟩
    ·exfalso
     subst z
     have: ∀ {ms:List Nat} {i:Nat},Ada ms=true→Aj4 pinned st' i ms≠some []:=by
      intro ms
      induction ms with
      |nil=>intro i h;cases h
      |cons m r ih=>
       intro i h hh
       simp only[Ada]at h
       simp only[Aj4]at hh
       cases h3:Nat.beq m 3 with
       |true=>
        rw[h3]at hh
        simp only[cond_true]at hh
        split at hh
        ·obtain⟨_,hh⟩:=A7 hh
         obtain⟨cs,_,hh⟩:=Af hh
         obtain⟨_,hh⟩:=A7 hh
         simp at hh
        ·cases hh
       |false=>
        rw[h3]at h hh
        simp only[cond_false]at h hh
        cases h0:Nat.beq m 0 with
        |true=>rw[h0]at h;exact ih h hh
        |false=>rw[h0]at h;cases h
     exact this hle1 hoo
    ·rw[Nat.sub_zero]at z2 z3
     exact⟨j,cs,z2,z3,z4⟩
   obtain⟨j,cs,z1,z2,z3,z4,z5,rfl⟩:=hsome
   have hvj:=en.2.2.1 j
   rw[z3]at hvj
   have hvalj:vals[j]? =some (.pointer (some ⟨b,0,none⟩)):=by
    have: ∀ {as:List RV} {ms:List Nat} {vals:List Value} {j:Nat},BVa G b vs0 ms as vals→ms[j]? =some 3→j<vals.length→vals[j]? =some (.pointer (some ⟨b,0,none⟩)):=by
     intro as
     induction as with
     |nil=>intro ms vals j h hj hl;cases vals with|nil=>simp at hl|cons _ _=>exact h.elim
     |cons x as ih=>
      intro ms vals j h hj hl
      cases vals with
      |nil=>simp at hl
      |cons v vals=>
       cases ms with
       |nil=>simp at hj
       |cons m r=>
        cases j with
        |zero=>
         simp at hj;subst hj
         obtain⟨h1,_⟩:=h
         simp at h1
         simp[h1.1]
        |succ j=>simp at hj hl;simpa using ih h.2 hj hl
    exact this hbva z2 (by omega)
   have hpj:a'.tmps.getD j undef= .pointer (some ⟨b,0,none⟩):=en.2.2.2 j _ (by show(vals.take np)[j]? =_;rw[List.getElem?_take,if_pos (by omega)];exact hvalj)
   have hBj:gh'.B j=b:=by
    rw[hpj]at hvj
    have:=hvj.2
    simp at this
    exact this.symm
   obtain⟨vs1,e1,g1,g2,g3⟩:=m.box j cs z4
   rw[hBj]at g1
   have hro: ∀(i:Nat) (x:Cl),cs[i]? =some x→D4 x.sh=true→U6 x.tok=true:=fun i x hx hs=>by
    cases pinned with
    |true=>rw[M0 z5 i x hx hs];rfl
    |false=>exact Pf z5 i x hx hs
   have hval: ∃v,(results fn a'.tmps).run P w'= .ok v w'∧(own=true→ ∃f,Bi f w'∧f.from_ w.heap.size∧L4 (l.map strip) v f)∧(own=false→ ∃G':A6,Em G' w'∧G.sub G'∧(∀c o x,G' c o=some x→G c o=some x∨w.heap.size≤c)∧Rv G' (l.map strip) v):=by
    cases own with
    |true=>
     obtain⟨ate,hgv,hea⟩:=Af hgv1
     obtain⟨vs,f1,f2,k1,k2,k3,k4,k5,k6,k7⟩:=hfin (m:=[]) (us:=[]) m en hl trivial (by simpa using hgv) hea
     refine⟨_,k1,fun _=>⟨f1,k2,fun c o hc=>?_,Aoh k6⟩,fun h=>by cases h⟩
     rcases(k5 c o (.inl hc)).1 with q|q
     ·exact q
     ·exfalso
      have hq:(Aa.one b (.cells vs0.toArray e0 (0,0)) c).isSome=true:=q
      simp only[Aa.one]at hq
      split at hq
      ·rename_i hcb
       exact(k5 c o (.inl hc)).2 j (Fu z4) (by rw[hBj,hcb])
      ·cases hq
    |false=>
     obtain⟨vs,h1,h2⟩:=Uk hC m en hl
     refine⟨_,Ak6 h1,fun h=>(by cases h),fun _=>⟨gh'.G,m.lies,m.g0,fun c o x hx=>?_,Ays h2.rva⟩⟩
     rcases m.new c o x hx with q|q|q
     ·exact .inl q
     ·exact .inr q
     ·exfalso
      have hq:(Aa.one b (.cells vs0.toArray e0 (0,0)) c).isSome=true:=q
      simp only[Aa.one]at hq
      split at hq
      ·rename_i hcb
       have:=m.boxG j o (Fu z4)
       rw[hBj,←hcb,hx]at this;cases this
      ·cases hq
   obtain⟨v,hv1,hv2,hv3⟩:=hval
   refine⟨en.2.1,v,hv1,v,vs1,e1,true,_,rfl,m.moved,hv2,hv3,g1,rfl,Ayt (cx:=cx) g3 hro,fun hp i s hs hsl=>?_⟩
   ·subst hp
    rw[List.getElem?_map]at hs
    cases hx:cs[i]? with
    |none=>rw[hx]at hs;cases hs
    |some x=>
     rw[hx]at hs
     simp at hs;subst hs
     have ht:=M0 z5 i x hx hsl
     rw[Nat.zero_add]at ht
     obtain⟨v,hv,hcr⟩:=g3.get hx
     rw[hv]
     obtain⟨_,hcr⟩:=hcr
     rw[ht]at hcr
     obtain⟨r1,r2⟩:=hcr
     have r2':v=vs0.getD i undef:=r2
     cases h0:vs0[i]? with
     |some u=>rw[r2',List.getD_eq_getElem?_getD,h0];rfl
     |none=>
      exfalso
      rw[List.getD_eq_getElem?_getD,h0]at r2'
      simp at r2'
      obtain⟨sh,val,tok⟩:=x
      simp only at hsl
      cases sh with
      |sl e cs'=>
       simp only[RdD]at r1
       obtain⟨ad,cap,hvv,_⟩:=r1
       rw[r2']at hvv
       simp[undef]at hvv
      |_=>cases hsl
  cases e with
  |exit i=>simp at hr
  |normal=>obtain⟨l,hl,hr⟩:=Af hr;exact fin l hl hr
  |ret=>obtain⟨l,hl,hr⟩:=Af hr;exact fin l hl hr
end
end Go.Proofs.YtmhhajdeafijmaaGreat
namespace Go.Proofs.YtmhhajdeafijmaaGreat
open Go.RowKit
set_option linter.unusedVariables false
set_option linter.unusedSectionVars false
set_option linter.unusedSimpArgs false
noncomputable section

def Ab4 (N:St→St):Prop:=∀cx gh st a w nt,RM cx gh st w→Env nt cx gh st a→ ∃gh',RM cx gh' (N st) w∧Env nt cx gh' (N st) a
theorem Ab4.comp {N M:St→St} (hN:Ab4 N) (hM:Ab4 M):Ab4 fun st=>M (N st):=fun cx gh st a w nt m e=>by
 obtain⟨g1,m1,e1⟩:=hN cx gh st a w nt m e
 exact hM cx g1 (N st) a w nt m1 e1
def M4 (x:Cl):Cl:=match x.tok with
 | .elt _ _ _ _ _ _ _=>⟨x.sh,x.val,Ie x.sh .rd⟩
 | .one _ i t=>⟨x.sh,x.val,.bag t (i+1)⟩
 | .prt _ _ _ _ _=>⟨x.sh,x.val,Ie x.sh .rd⟩
 |_=>x
def Arb:PV→PV
 | .v a xs=>.v a (xs.map M4)
 | .box b o=>.box b o
 |_=>.any
def A4c (keep:List Nat) (st:St):St:={st with env:=keep.map fun i=>(i,Arb (st.get i))}
theorem A6f {cx:Cx} {g:Gh} {st:St} {x:Cl} {v:Value} (h:CR cx g st x v):CR cx g st (M4 x) v:=by
 obtain⟨sh,val,tok⟩:=x
 cases tok with
 |elt t e cs l i d j=>
  refine⟨h.1,?_⟩
  cases sh<;>first|trivial|(intro _ _ e;cases e)
 |one s i t=>exact⟨h.1,h.2.1,h.2.2.1⟩
 |prt t e cs l lo=>
  refine⟨h.1,?_⟩
  cases sh<;>first|trivial|(intro _ _ e;cases e)
 |_=>exact h
theorem Vv {cx:Cx} {g:Gh} {st:St}: ∀ {xs:List Cl} {vs:List Value},CRs cx g st xs vs→CRs cx g st (xs.map M4) vs
 |[],[],_=>trivial
 |x::xs,v::vs,h=>⟨A6f h.1,Vv h.2⟩
 |[],_::_,h=>h.elim
 |_::_,[],h=>h.elim
theorem A6g {cx:Cx} {g:Gh} {st:St} {p:PV} {v:Value} (h:VR cx g st p v):VR cx g st (Arb p) v:=by
 cases p with
 |any=>trivial
 |v a xs=>cases a with
  |true=>obtain⟨vs,e,h⟩:=h;exact⟨vs,e,Vv h⟩
  |false=>exact Vv (xs:=xs) (vs:=[v]) h
 |box b o=>exact h
 |el _ _ _=>trivial
 |tup _=>trivial
theorem Ayv (f:Nat→PV): ∀(keep:List Nat) (i:Nat),look i (keep.map fun i=>(i,f i))=f i∨look i (keep.map fun i=>(i,f i))= .any
 |[],i=>.inr rfl
 |j::r,i=>by
  simp only[List.map_cons]
  rw[C0]
  by_cases h:i=j
  ·subst h;rw[if_pos rfl];exact .inl rfl
  ·rw[if_neg h];exact Ayv f r i
theorem V7 (g:Gh) (st:St) (env:List (Nat×PV)):Ext g st g {st with env:=env}:=⟨fun _ _ _ h=>h,fun _ _=>rfl,fun _ h=>h,fun _ h=>h,fun t h _=>⟨h,rfl,rfl,rfl,fun _ _ _=>rfl⟩⟩
theorem RM.env {cx:Cx} {w:World} {g:Gh} {st:St} (m:RM cx g st w) (env:List (Nat×PV)):RM cx g {st with env:=env} w:=
 ⟨m.moved,m.lies,m.g0,m.old,fun k cs hk=>let ⟨vs,e,h1,h2,h3⟩:=m.box k cs hk;⟨vs,e,h1,h2,h3.ext (V7 g st env)⟩,m.inj,m.boxG,m.tok,m.apart,m.tokBox,m.nodup,m.new⟩
theorem A4d (keep:List Nat):Ab4 (A4c keep):=fun cx gh st a w nt m e=>by
 refine⟨gh,m.env _,e.1,e.2.1,fun i=>?_,e.2.2.2⟩
 have:(A4c keep st).get i=look i (keep.map fun i=>(i,Arb (st.get i))):=rfl
 rw[this]
 rcases Ayv (fun i=>Arb (st.get i)) keep i with h|h
 ·rw[h];exact(A6g (e.2.2.1 i)).ext (V7 gh st _)
 ·rw[h];trivial
def pos (t:Nat):List Nat→Option Nat
 |[]=>none
 |u::r=>cond (Nat.beq t u) (some 0) (match pos t r with|some n=>some (n+1)|none=>none)
theorem Agp {t:Nat}: ∀ {l:List Nat} {n:Nat},pos t l=some n→l[n]? =some t
 |[],n,h=>by simp[pos]at h
 |u::r,n,h=>by
  unfold pos at h
  cases hb:Nat.beq t u with
  |true=>
   rw[hb]at h;simp at h;subst h
   rw[Nat.eq_of_beq_eq_true hb];rfl
  |false=>
   rw[hb]at h
   simp only[cond_false]at h
   split at h
   ·rename_i m hm
    simp at h;subst h
    simpa using Agp hm
   ·cases h
def Ry (l:List Nat) (t:Nat):List Nat:=cond (l.contains t) l (l++[t])
theorem X7 {l:List Nat} {t:Nat} (h:l.Nodup):(Ry l t).Nodup:=by
 unfold Ry
 cases hc:l.contains t with
 |true=>exact h
 |false=>
  have hn:t∉l:=fun hm=>by rw[List.contains_iff_mem.2 hm]at hc;cases hc
  simp only[cond_false]
  exact List.nodup_append.2 ⟨h,List.pairwise_singleton _ _,fun x hx y hy=>by simp at hy;subst hy;exact fun e=>hn (e▸hx)⟩
def Lr:List Nat→List (Nat×PV)→List Nat
 |acc,[]=>acc
 |acc,(_,.box b _)::r=>Lr (Ry acc b) r
 |acc,_::r=>Lr acc r
def Rz (st:St):List Nat→List (Nat×List Cl)
 |[]=>[]
 |k::r=>match st.bx k with|some cs=>(k,cs.map M4)::Rz st r|none=>Rz st r
def Oy (st:St):St:={st with boxes:=Rz st (Lr [] st.env)}
theorem Arc {l:List Nat} {t u:Nat} (h:u∈l∨u=t):u∈Ry l t:=by
 unfold Ry
 cases hc:l.contains t with
 |true=>
  rcases h with h|h
  ·exact h
  ·subst h;exact List.contains_iff_mem.1 hc
 |false=>
  simp only[cond_false];rcases h with h|h
  ·exact List.mem_append.2 (.inl h)
  ·subst h;simp
theorem Amu: ∀ {e:List (Nat×PV)} {acc:List Nat} {b:Nat},(b∈acc→b∈Lr acc e)∧ ∀i o,look i e= .box b o→b∈Lr acc e
 |[],acc,b=>⟨fun h=>h,fun i o h=>by simp[look]at h⟩
 |(j,x)::r,acc,b=>by
  have key: ∀acc',(b∈acc→b∈acc')→(∀o,x= .box b o→b∈acc')→(b∈acc→b∈Lr acc' r)∧ ∀i o,look i ((j,x)::r)= .box b o→b∈Lr acc' r:=fun acc' h1 h2=>by
   have ih:=Amu (e:=r) (acc:=acc') (b:=b)
   refine⟨fun h=>ih.1 (h1 h),fun i o h=>?_⟩
   rw[C0]at h
   split at h
   ·exact ih.1 (h2 o h)
   ·exact ih.2 i o h
  cases x with
  |box b' o'=>exact key (Ry acc b') (fun h=>Arc (.inl h)) (fun o h=>by cases h;exact Arc (.inr rfl))
  |any=>exact key acc (fun h=>h) (fun o h=>by cases h)
  |v a xs=>exact key acc (fun h=>h) (fun o h=>by cases h)
  |el _ _ xs=>exact key acc (fun h=>h) (fun o h=>by cases h)
  |tup l=>exact key acc (fun h=>h) (fun o h=>by cases h)
theorem Agq (st:St): ∀(l:List Nat) (i:Nat),(Ch i (Rz st l)=(st.bx i).map (fun cs=>cs.map M4)∨Ch i (Rz st l)=none)∧(i∈l→Ch i (Rz st l)=(st.bx i).map fun cs=>cs.map M4)
 |[],i=>⟨.inr rfl,fun h=>by cases h⟩
 |k::r,i=>by
  have ih:=Agq st r i
  unfold Rz
  cases hk:st.bx k with
  |none=>
   simp only
   refine⟨ih.1,fun hm=>?_⟩
   rcases List.mem_cons.1 hm with e|hm'
   ·subst e
    rcases ih.1 with h|h
    ·exact h
    ·rw[h,hk];rfl
   ·exact ih.2 hm'
  |some cs=>
   simp only
   have hl:Ch i ((k,cs.map M4)::Rz st r)=if i=k then some (cs.map M4)else Ch i (Rz st r):=by
    show cond (Nat.beq i k) (some (cs.map M4)) (Ch i (Rz st r))=_
    by_cases h:i=k
    ·subst h;simp
    ·have:Nat.beq i k=false:=by
      cases hb:Nat.beq i k with
      |false=>rfl
      |true=>exact(h (Nat.eq_of_beq_eq_true hb)).elim
     simp[h,this]
   rw[hl]
   by_cases h:i=k
   ·subst h;rw[if_pos rfl,hk];exact⟨.inl rfl,fun _=>rfl⟩
   ·rw[if_neg h]
    exact⟨ih.1,fun hm=>ih.2 ((List.mem_cons.1 hm).resolve_left h)⟩
theorem A4e:Ab4 Oy:=fun cx gh st a w nt m e=>by
 have hbx: ∀ {k:Nat} {cs:List Cl},(Oy st).bx k=some cs→ ∃c0,st.bx k=some c0∧cs=c0.map M4:=fun {k cs} h=>by
  have h':Ch k (Rz st (Lr [] st.env))=some cs:=h
  rcases(Agq st (Lr [] st.env) k).1 with q|q
  ·rw[q]at h'
   cases hb:st.bx k with
   |none=>rw[hb]at h';cases h'
   |some c0=>rw[hb]at h';simp at h';exact⟨c0,rfl,h'.symm⟩
  ·rw[q]at h';cases h'
 have hhas: ∀ {k:Nat},(Oy st).has k=true→st.has k=true:=fun {k} h=>by
  obtain⟨cs,hcs⟩:=Ft h
  obtain⟨c0,h0,_⟩:=hbx hcs
  exact Fu h0
 have hcr: ∀ {x:Cl} {v:Value},CR cx gh st x v→CR cx gh (Oy st) x v:=fun {x v} h=>h
 have hcrs: ∀ {xs:List Cl} {vs:List Value},CRs cx gh st xs vs→CRs cx gh (Oy st) xs vs:=by
  intro xs
  induction xs with
  |nil=>intro vs h;cases vs with|nil=>trivial|cons _ _=>exact h.elim
  |cons x xs ih=>intro vs h;cases vs with|nil=>exact h.elim|cons v vs=>exact⟨hcr h.1,ih h.2⟩
 have hvv: ∀ {b:Bool} {xs:List Cl} {v:Value},VRv cx gh st b xs v→VRv cx gh (Oy st) b xs v:=fun {b xs v} h=>by
  cases b with
  |true=>obtain⟨vs,e,h⟩:=h;exact⟨vs,e,hcrs h⟩
  |false=>exact hcrs (xs:=xs) (vs:=[v]) h
 have hvt: ∀ {l:List (Bool×List Cl)} {vs:List Value},VRt cx gh st l vs→VRt cx gh (Oy st) l vs:=by
  intro l
  induction l with
  |nil=>intro vs h;cases vs with|nil=>trivial|cons _ _=>exact h.elim
  |cons x xs ih=>intro vs h;cases vs with|nil=>exact h.elim|cons v vs=>exact⟨hvv h.1,ih h.2⟩
 have hel: ∀ {ro:Bool} {xs:List Cl} {b o:Nat},ElR cx gh st ro xs b o→ElR cx gh (Oy st) ro xs b o:=by
  intro ro xs
  induction xs with
  |nil=>intro b o h;trivial
  |cons x xs ih=>intro b o h;obtain⟨⟨u,h1,h2⟩,h3⟩:=h;exact⟨⟨u,h1,hcr h2⟩,ih h3⟩
 refine⟨gh,⟨m.moved,m.lies,m.g0,m.old,fun k cs hk=>?_,fun i j hi hj=>m.inj i j (hhas hi) (hhas hj),fun k o hk=>m.boxG k o (hhas hk),m.tok,m.apart,fun t k ht hk=>m.tokBox t k ht (hhas hk),m.nodup,m.new⟩,e.1,e.2.1,fun i=>?_,e.2.2.2⟩
 ·obtain⟨c0,h0,rfl⟩:=hbx hk
  obtain⟨vs,e',h1,h2,h3⟩:=m.box k c0 h0
  exact⟨vs,e',h1,h2,hcrs (Vv h3)⟩
 ·have:(Oy st).get i=st.get i:=rfl
  rw[this]
  have hv:=e.2.2.1 i
  cases hg:st.get i with
  |any=>trivial
  |v b xs=>rw[hg]at hv;exact hvv hv
  |box b o=>
   rw[hg]at hv
   refine⟨?_,hv.2⟩
   have hm:=(Amu (e:=st.env) (acc:=[]) (b:=b)).2 i o hg
   have h2:(Oy st).bx b=(st.bx b).map fun cs=>cs.map M4:=(Agq st (Lr [] st.env) b).2 hm
   show((Oy st).bx b).isSome=true
   obtain⟨c0,h0⟩:=Ft hv.1
   rw[h2,h0];rfl
  |el p ro xs=>rw[hg]at hv;obtain⟨b,o,e',h1,h2⟩:=hv;exact⟨b,o,e',hel h1,h2⟩
  |tup l=>rw[hg]at hv;obtain⟨vs,e',hv⟩:=hv;exact⟨vs,e',hvt hv⟩
def B0 (n:Nat):List Cl→List Cl×Nat
 |[]=>([],n)
 |⟨.sl e cs,d,.nil⟩::r=>let x:=B0 (n+1) r;(⟨.sl e cs,d,.own n⟩::x.1,x.2)
 |x::r=>let y:=B0 n r;(x::y.1,y.2)
def Dn (n:Nat):List (Nat×PV)→List (Nat×PV)×Nat
 |[]=>([],n)
 |(i,.v a xs)::r=>let x:=B0 n xs;let y:=Dn x.2 r;((i,.v a x.1)::y.1,y.2)
 |p::r=>let y:=Dn n r;(p::y.1,y.2)
def Hm (n:Nat):List (Nat×List Cl)→List (Nat×List Cl)×Nat
 |[]=>([],n)
 |(k,xs)::r=>let x:=B0 n xs;let y:=Hm x.2 r;((k,x.1)::y.1,y.2)
theorem Pg: ∀(n:Nat) (xs:List Cl),n≤(B0 n xs).2
 |n,[]=>Nat.le_refl _
 |n,x::r=>by
  unfold B0
  split
  ·rename_i h;cases h
  ·rename_i h;cases h;exact Nat.le_trans (Nat.le_succ n) (Pg (n+1) _)
  ·rename_i h;cases h;exact Pg n _
theorem S6: ∀(n:Nat) (e:List (Nat×PV)),n≤(Dn n e).2
 |n,[]=>Nat.le_refl _
 |n,(i,.v a xs)::r=>Nat.le_trans (Pg n xs) (S6 _ r)
 |n,(i,.any)::r=>S6 n r
 |n,(i,.box _ _)::r=>S6 n r
 |n,(i,.el _ _ _)::r=>S6 n r
 |n,(i,.tup _)::r=>S6 n r
theorem As1: ∀(n:Nat) (e:List (Nat×List Cl)),n≤(Hm n e).2
 |n,[]=>Nat.le_refl _
 |n,(k,xs)::r=>Nat.le_trans (Pg n xs) (As1 _ r)
theorem X8 {cx:Cx} {w:World}: ∀ {xs:List Cl} {vs:List Value} {g:Gh} {st:St} {n:Nat},RM cx g st w→CRs cx g st xs vs→(∀t,n≤t→t<(B0 n xs).2→t∉st.used)→
  ∃g',RM cx g' (more st n ((B0 n xs).2-n)) w∧Ext g st g' (more st n ((B0 n xs).2-n))∧g'.B=g.B∧CRs cx g' (more st n ((B0 n xs).2-n)) (B0 n xs).1 vs
 |[],[],g,st,n,hM,_,_=>by
  have:more st n ((B0 n []).2-n)=st:=by simp[B0,Uh]
  rw[this]
  exact⟨g,hM,Ext.refl _ _,rfl,trivial⟩
 |x::xs,v::vs,g,st,n,hM,hc,hu=>by
  by_cases hx: ∃e cs d,x=⟨.sl e cs,d,.nil⟩
  ·obtain⟨e,cs,d,rfl⟩:=hx
   have hd:B0 n (⟨.sl e cs,d,.nil⟩::xs)=(⟨.sl e cs,d,.own n⟩::(B0 (n+1) xs).1,(B0 (n+1) xs).2):=rfl
   rw[hd]at hu ⊢
   have hge:=Pg (n+1) xs
   simp only at hu ⊢
   have hst:more st n ((B0 (n+1) xs).2-n)=more {st with live:=n::st.live,used:=n::st.used} (n+1) ((B0 (n+1) xs).2-(n+1)):=by
    rw[show(B0 (n+1) xs).2-n=((B0 (n+1) xs).2-(n+1))+1 by omega];exact Auh st n _
   rw[hst]
   obtain⟨⟨h1,h2⟩,h3⟩:=hc
   obtain⟨a,ha⟩:=h2 e cs rfl
   have hO:Bb Aa.emp (.sl e cs) d v:=Adb h1 (fun _ _ _=>⟨a,ha⟩)
   obtain⟨g1,M1,E1,C1,B1,_⟩:=Aqx hM (hu n (Nat.le_refl _) (by omega)) (live':=st.live) (fun _ h=>h) hM.nodup (Bi.emp w) (s:=.sl e cs) (hsl:=rfl) (hf:=fun b o hb=>by cases hb) (hO:=hO) (hr:=fun b m cap hv hc=>by rw[ha]at hv;cases hv;omega)
   obtain⟨g2,M2,E2,B2,C2⟩:=X8 (n:=n+1) M1 (h3.ext E1) (fun t t1 t2 hm=>by
    rcases List.mem_cons.1 hm with q|q
    ·omega
    ·exact hu t (by omega) t2 q)
   exact⟨g2,M2,E1.trans E2,B2.trans B1,C1.ext E2,C2⟩
  ·have hd:B0 n (x::xs)=(x::(B0 n xs).1,(B0 n xs).2):=by
    rw[B0.eq_def]
    split
    ·rename_i h;cases h
    ·rename_i h;cases h;exact(hx ⟨_,_,_,rfl⟩).elim
    ·rename_i h;cases h;rfl
   rw[hd]at hu ⊢
   obtain⟨g2,M2,E2,B2,C2⟩:=X8 (n:=n) hM hc.2 hu
   exact⟨g2,M2,E2,B2,hc.1.ext E2,C2⟩
 |[],_::_,_,_,_,_,h,_=>h.elim
 |_::_,[],_,_,_,_,h,_=>h.elim
theorem As2 {cx:Cx} {w:World} (val:Nat→Value): ∀ {env:List (Nat×PV)} {g:Gh} {st:St} {n:Nat},(env.map fun p=>p.1).Nodup→RM cx g st w→(∀p,p∈env→VR cx g st p.2 (val p.1))→(∀t,n≤t→t<(Dn n env).2→t∉st.used)→
  ∃g',RM cx g' (more st n ((Dn n env).2-n)) w∧Ext g st g' (more st n ((Dn n env).2-n))∧g'.B=g.B∧ ∀p,p∈(Dn n env).1→VR cx g' (more st n ((Dn n env).2-n)) p.2 (val p.1)
 |[],g,st,n,_,hM,_,_=>by
  have:more st n ((Dn n []).2-n)=st:=by simp[Dn,Uh]
  rw[this]
  exact⟨g,hM,Ext.refl _ _,rfl,fun p hp=>by cases hp⟩
 |(i,p)::r,g,st,n,hn,hM,hv,hu=>by
  have hn2:=(List.nodup_cons.1 hn).2
  have skip:Dn n ((i,p)::r)=((i,p)::(Dn n r).1,(Dn n r).2)→ ∃g',RM cx g' (more st n ((Dn n ((i,p)::r)).2-n)) w∧Ext g st g' (more st n ((Dn n ((i,p)::r)).2-n))∧g'.B=g.B∧ ∀q,q∈(Dn n ((i,p)::r)).1→VR cx g' (more st n ((Dn n ((i,p)::r)).2-n)) q.2 (val q.1):=fun hd=>by
   rw[hd]at hu ⊢
   obtain⟨g2,M2,E2,B2,C2⟩:=As2 val (n:=n) hn2 hM (fun q hq=>hv q (by simp[hq])) hu
   refine⟨g2,M2,E2,B2,fun q hq=>?_⟩
   rcases List.mem_cons.1 hq with e|hq
   ·subst e;exact(hv (i,p) (by simp)).ext E2
   ·exact C2 q hq
  cases p with
  |v a xs=>
   have hd:Dn n ((i,.v a xs)::r)=((i,.v a (B0 n xs).1)::(Dn (B0 n xs).2 r).1,(Dn (B0 n xs).2 r).2):=rfl
   rw[hd]at hu ⊢
   simp only at hu ⊢
   have g1:=Pg n xs
   have g2:=S6 (B0 n xs).2 r
   have h0:=hv (i,.v a xs) (by simp)
   have key: ∃g',RM cx g' (more st n ((B0 n xs).2-n)) w∧Ext g st g' (more st n ((B0 n xs).2-n))∧g'.B=g.B∧VRv cx g' (more st n ((B0 n xs).2-n)) a (B0 n xs).1 (val i):=by
    cases a with
    |true=>
     obtain⟨vs,e,h0⟩:=h0
     obtain⟨g',M1,E1,B1,C1⟩:=X8 (n:=n) hM h0 (fun t t1 t2=>hu t t1 (by omega))
     exact⟨g',M1,E1,B1,vs,e,C1⟩
    |false=>exact X8 (n:=n) (vs:=[val i]) hM h0 (fun t t1 t2=>hu t t1 (by omega))
   obtain⟨g',M1,E1,B1,C1⟩:=key
   have hst:more (more st n ((B0 n xs).2-n)) (B0 n xs).2 ((Dn (B0 n xs).2 r).2-(B0 n xs).2)=more st n ((Dn (B0 n xs).2 r).2-n):=by
    have:=Aab st n ((B0 n xs).2-n) ((Dn (B0 n xs).2 r).2-(B0 n xs).2)
    rw[show n+((B0 n xs).2-n)=(B0 n xs).2 by omega]at this
    rw[this];congr 1;omega
   obtain⟨g3,M3,E3,B3,C3⟩:=As2 val (n:=(B0 n xs).2) hn2 M1 (fun q hq=>(hv q (by simp[hq])).ext E1) (fun t t1 t2 hm=>by
    rcases List.mem_append.1 hm with hm|hm
    ·have:=List.mem_range'_1.1 (List.mem_reverse.1 hm);omega
    ·exact hu t (by omega) t2 hm)
   rw[hst]at M3 E3 C3
   refine⟨g3,M3,E1.trans E3,B3.trans B1,fun q hq=>?_⟩
   rcases List.mem_cons.1 hq with e|hq
   ·subst e;exact VRv.ext E3 C1
   ·exact C3 q hq
  |any=>exact skip rfl
  |box _ _=>exact skip rfl
  |el _ _ _=>exact skip rfl
  |tup _=>exact skip rfl
theorem A16 {cx:Cx} {w:World}: ∀ {L:List (Nat×List Cl)} {g:Gh} {st:St} {n:Nat},RM cx g st w→(∀p,p∈L→ ∃(vs:List Value) (e:TypeId),w.heap[g.B p.1]? =some (.cells vs.toArray e (0,0))∧CRs cx g st p.2 vs)→(∀t,n≤t→t<(Hm n L).2→t∉st.used)→
  ∃g',RM cx g' (more st n ((Hm n L).2-n)) w∧Ext g st g' (more st n ((Hm n L).2-n))∧g'.B=g.B∧ ∀p,p∈(Hm n L).1→ ∃(vs:List Value) (e:TypeId),w.heap[g'.B p.1]? =some (.cells vs.toArray e (0,0))∧CRs cx g' (more st n ((Hm n L).2-n)) p.2 vs
 |[],g,st,n,hM,_,_=>by
  have:more st n ((Hm n []).2-n)=st:=by simp[Hm,Uh]
  rw[this]
  exact⟨g,hM,Ext.refl _ _,rfl,fun p hp=>by cases hp⟩
 |(k,xs)::r,g,st,n,hM,hv,hu=>by
  have hd:Hm n ((k,xs)::r)=((k,(B0 n xs).1)::(Hm (B0 n xs).2 r).1,(Hm (B0 n xs).2 r).2):=rfl
  rw[hd]at hu ⊢
  simp only at hu ⊢
  have g1:=Pg n xs
  have g2:=As1 (B0 n xs).2 r
  obtain⟨vs,e,h0,h1'⟩:=hv (k,xs) (by simp)
  have h1:CRs cx g st xs vs:=h1'
  obtain⟨g',M1,E1,B1,C1⟩:=X8 (n:=n) hM h1 (fun t t1 t2=>hu t t1 (by omega))
  have hst:more (more st n ((B0 n xs).2-n)) (B0 n xs).2 ((Hm (B0 n xs).2 r).2-(B0 n xs).2)=more st n ((Hm (B0 n xs).2 r).2-n):=by
   have:=Aab st n ((B0 n xs).2-n) ((Hm (B0 n xs).2 r).2-(B0 n xs).2)
   rw[show n+((B0 n xs).2-n)=(B0 n xs).2 by omega]at this
   rw[this];congr 1;omega
  obtain⟨g3,M3,E3,B3,C3⟩:=A16 (L:=r) (n:=(B0 n xs).2) M1 (fun q hq=>by
   obtain⟨us,e',k1,k2⟩:=hv q (by simp[hq])
   exact⟨us,e',by rw[B1];exact k1,k2.ext E1⟩) (fun t t1 t2 hm=>by
   rcases List.mem_append.1 hm with hm|hm
   ·have:=List.mem_range'_1.1 (List.mem_reverse.1 hm);omega
   ·exact hu t (by omega) t2 hm)
  rw[hst]at M3 E3 C3
  refine⟨g3,M3,E1.trans E3,B3.trans B1,fun q hq=>?_⟩
  rcases List.mem_cons.1 hq with e'|hq
  ·subst e'
   exact⟨vs,e,by rw[B3,B1];exact h0,C1.ext E3⟩
  ·exact C3 q hq
end
end Go.Proofs.YtmhhajdeafijmaaGreat
namespace Go.Proofs.YtmhhajdeafijmaaGreat
open Go.RowKit
set_option linter.unusedVariables false
set_option linter.unusedSectionVars false
set_option linter.unusedSimpArgs false
noncomputable section

theorem Ayw: ∀ {e:List (Nat×PV)} {i:Nat},look i e= .any∨(i,look i e)∈e
 |[],i=>.inl rfl
 |(j,x)::r,i=>by
  rw[C0]
  by_cases h:i=j
  ·subst h;rw[if_pos rfl];right;simp
  ·rw[if_neg h]
   rcases Ayw (e:=r) (i:=i)with q|q
   ·exact .inl q
   ·exact .inr (List.mem_cons_of_mem _ q)
theorem Amv: ∀ {e:List (Nat×PV)} {p:Nat×PV},(e.map fun p=>p.1).Nodup→p∈e→look p.1 e=p.2
 |(j,x)::r,p,hn,h=>by
  simp only[List.map_cons]at hn
  have hn':=List.nodup_cons.1 hn
  rw[C0]
  rcases List.mem_cons.1 h with e|h
  ·subst e;simp
  ·rw[if_neg (fun e=>hn'.1 (by rw[←e];exact List.mem_map.2 ⟨p,h,rfl⟩))]
   exact Amv hn'.2 h
theorem R0 (i k:Nat) (xs:List Cl) (r:List (Nat×List Cl)):Ch i ((k,xs)::r)=if i=k then some xs else Ch i r:=by
 show cond (Nat.beq i k) (some xs) (Ch i r)=_
 by_cases h:i=k
 ·subst h;simp
 ·have:Nat.beq i k=false:=by
   cases hb:Nat.beq i k with
   |false=>rfl
   |true=>exact(h (Nat.eq_of_beq_eq_true hb)).elim
  simp[h,this]
theorem Aur: ∀ {L:List (Nat×List Cl)} {i:Nat} {cs:List Cl},Ch i L=some cs→(i,cs)∈L
 |[],i,cs,h=>by cases h
 |(k,xs)::r,i,cs,h=>by
  rw[R0]at h
  split at h
  ·rename_i e;simp at h;subst e;subst h;simp
  ·exact List.mem_cons_of_mem _ (Aur h)
theorem Akh: ∀ {L:List (Nat×List Cl)} {p:Nat×List Cl},(L.map fun p=>p.1).Nodup→p∈L→Ch p.1 L=some p.2
 |(k,xs)::r,p,hn,h=>by
  simp only[List.map_cons]at hn
  have hn':=List.nodup_cons.1 hn
  rw[R0]
  rcases List.mem_cons.1 h with e|h
  ·subst e;simp
  ·rw[if_neg (fun e=>hn'.1 (by rw[←e];exact List.mem_map.2 ⟨p,h,rfl⟩))]
   exact Akh hn'.2 h
theorem RM.reBox {cx:Cx} {w:World} {g:Gh} {st:St} (m:RM cx g st w) {bs:List (Nat×List Cl)} (h: ∀k cs,Ch k bs=some cs→st.has k=true∧ ∃(vs:List Value) (e:TypeId),w.heap[g.B k]? =some (.cells vs.toArray e (0,0))∧CRs cx g st cs vs)
  (hh: ∀k,st.has k=true→(Ch k bs).isSome=true):RM cx g {st with boxes:=bs} w∧Ext g st g {st with boxes:=bs}:=by
 have hE:Ext g st g {st with boxes:=bs}:=⟨fun _ _ _ h=>h,fun _ _=>rfl,fun k hk=>hh k hk,fun _ h=>h,fun t ht _=>⟨ht,rfl,rfl,rfl,fun _ _ _=>rfl⟩⟩
 have hs: ∀k,({st with boxes:=bs}:St).has k=true→st.has k=true:=fun k hk=>by
  obtain⟨cs,hcs⟩:=Ft hk
  exact(h k cs hcs).1
 refine⟨⟨m.moved,m.lies,m.g0,m.old,fun k cs hk=>?_,fun i j hi hj=>m.inj i j (hs i hi) (hs j hj),fun k o hk=>m.boxG k o (hs k hk),m.tok,m.apart,fun t k ht hk=>m.tokBox t k ht (hs k hk),m.nodup,m.new⟩,hE⟩
 obtain⟨h1,vs,e,h2,h3⟩:=h k cs hk
 obtain⟨c0,hc0⟩:=Ft h1
 obtain⟨_,_,_,hm,_⟩:=m.box k c0 hc0
 exact⟨vs,e,h2,hm,h3.ext hE⟩
def Ayx (n:Nat) (st:St):St:=
 let x:=Dn n st.env
 let y:=Hm x.2 st.boxes
 cond (Rt (st.env.map fun p=>p.1) && Rt (st.boxes.map fun p=>p.1) && (List.range' n (y.2-n)).all fun t=> !st.used.contains t)
  {env:=x.1,boxes:=y.1,live:=(List.range' n (y.2-n)).reverse++st.live,used:=(List.range' n (y.2-n)).reverse++st.used} st
theorem Aki: ∀ {n:Nat} {L:List (Nat×List Cl)},((Hm n L).1.map fun p=>p.1)=L.map fun p=>p.1
 |n,[]=>rfl
 |n,(k,xs)::r=>by
  show k::((Hm (B0 n xs).2 r).1.map fun p=>p.1)=_
  rw[Aki];rfl
theorem Aag: ∀ {L:List (Nat×List Cl)} {i:Nat},(Ch i L).isSome=true↔i∈L.map fun p=>p.1
 |[],i=>by simp[Ch]
 |(k,xs)::r,i=>by
  rw[R0]
  by_cases h:i=k
  ·subst h;simp
  ·rw[if_neg h];simp only[List.map_cons,List.mem_cons,h,false_or];exact Aag
theorem A0u (n:Nat):Ab4 (Ayx n):=fun cx gh st a w nt m e=>by
 unfold Ayx
 simp only
 cases hc:(Rt (st.env.map fun p=>p.1) && Rt (st.boxes.map fun p=>p.1) && (List.range' n ((Hm (Dn n st.env).2 st.boxes).2-n)).all fun t=> !st.used.contains t)with
 |false=>exact⟨gh,m,e⟩
 |true=>
  simp only[Bool.and_eq_true]at hc
  obtain⟨⟨h1,h2⟩,h3⟩:=hc
  have h1:=Aad h1
  have h2:=Aad h2
  have g1:=S6 n st.env
  have g2:=As1 (Dn n st.env).2 st.boxes
  have hu: ∀t,n≤t→t<(Hm (Dn n st.env).2 st.boxes).2→t∉st.used:=fun t t1 t2=>by
   have:=(List.all_eq_true.1 h3) t (List.mem_range'_1.2 ⟨t1,by omega⟩)
   simpa using this
  obtain⟨gh1,M1,E1,B1,C1⟩:=As2 (fun i=>a.tmps.getD i undef) (n:=n) h1 m (fun p hp=>by rw[←Amv h1 hp];exact e.2.2.1 p.1) (fun t t1 t2=>hu t t1 (by omega))
  have hst:more (more st n ((Dn n st.env).2-n)) (Dn n st.env).2 ((Hm (Dn n st.env).2 st.boxes).2-(Dn n st.env).2)=more st n ((Hm (Dn n st.env).2 st.boxes).2-n):=by
   have:=Aab st n ((Dn n st.env).2-n) ((Hm (Dn n st.env).2 st.boxes).2-(Dn n st.env).2)
   rw[show n+((Dn n st.env).2-n)=(Dn n st.env).2 by omega]at this
   rw[this];congr 1;omega
  obtain⟨gh2,M2,E2,B2,C2⟩:=A16 (L:=st.boxes) (n:=(Dn n st.env).2) M1 (fun p hp=>by
   obtain⟨vs,ty,k1,k2,k3⟩:=m.box p.1 p.2 (Akh h2 hp)
   exact⟨vs,ty,by rw[B1];exact k1,k3.ext E1⟩) (fun t t1 t2 hm=>by
   rcases List.mem_append.1 hm with q|q
   ·have:=List.mem_range'_1.1 (List.mem_reverse.1 q);omega
   ·exact hu t (by omega) t2 q)
  rw[hst]at M2 E2 C2
  obtain⟨M3,E3⟩:=M2.reBox (bs:=(Hm (Dn n st.env).2 st.boxes).1) (fun k cs hk=>by
   refine⟨?_,C2 (k,cs) (Aur hk)⟩
   show(Ch k st.boxes).isSome=true
   rw[Aag,←Aki (n:=(Dn n st.env).2),←Aag,hk];rfl) (fun k hk=>by
   have hk':(Ch k st.boxes).isSome=true:=hk
   rw[Aag]at hk' ⊢
   rw[Aki];exact hk')
  refine⟨gh2,M3.env (Dn n st.env).1,e.1,e.2.1,fun i=>?_,e.2.2.2⟩
  show VR cx gh2 _ (look i (Dn n st.env).1) _
  rcases Ayw (e:=(Dn n st.env).1) (i:=i)with q|q
  ·rw[q];trivial
  ·exact(((C1 _ q).ext E2).ext E3).ext (V7 gh2 _ _)
abbrev CSk:=List (Sh×Tok)
inductive PSk where
 |any
 |v (agg:Bool) (cs:CSk)
 |box (b off:Nat)
structure Sk where
 env:List (Nat×PSk)
 boxes:List (Nat×CSk)
 live:List Nat
def wkC (t:Tok) (x:Cl):Cl:=
 match t with
 | .rd=>cond (D4 x.sh) ⟨x.sh,x.val,.rd⟩ x
 | .ro=>match x.tok with| .pin _=>⟨x.sh,x.val,.ro⟩|_=>x
 | .row _=>match x.tok with| .own t=>⟨x.sh,x.val,.row t⟩|_=>x
 |_=>x
def Ayy:CSk→List Cl→List Cl
 |s::r,x::xs=>wkC s.2 x::Ayy r xs
 |_,xs=>xs
def wkV:PSk→PV→PV
 | .v _ cs,.v a xs=>.v a (Ayy cs xs)
 |_,p=>p
def wkE:List (Nat×PSk)→List (Nat×PV)→List (Nat×PV)
 |s::r,p::t=>(p.1,wkV s.2 p.2)::wkE r t
 |_,t=>t
def wkB:List (Nat×CSk)→List (Nat×List Cl)→List (Nat×List Cl)
 |s::r,p::t=>(p.1,Ayy s.2 p.2)::wkB r t
 |_,t=>t
def wk (k:Sk) (st:St):St:={st with env:=wkE k.env st.env,boxes:=wkB k.boxes st.boxes}
theorem Bat {cx:Cx} {g:Gh} {st:St} (t:Tok) {x:Cl} {v:Value} (h:CR cx g st x v):CR cx g st (wkC t x) v:=by
 cases t with
 |rd=>
  simp only[wkC]
  cases D4 x.sh with
  |true=>exact⟨h.1,trivial⟩
  |false=>exact h
 |ro=>
  obtain⟨sh,val,tok⟩:=x
  cases tok with
  |pin j=>exact⟨h.1,h.2.1⟩
  |_=>exact h
 |row u=>
  obtain⟨sh,val,tok⟩:=x
  cases tok with
  |own t=>
   refine⟨h.1,h.2.1,fun ht=>?_⟩
   obtain⟨q1,q2,q3,q4,q5⟩:=h.2.2 ht
   refine⟨?_,q2,q3,q4,q5⟩
   cases sh with
   |sl e cs=>
    simp only[Bb]at q1
    obtain⟨css,r,hs,r1,r2,r3⟩:=q1
    exact⟨e,cs,_,_,rfl,r1.sub (r2.2 r (by simp))⟩
   |_=>cases q5
  |_=>exact h
 |_=>exact h
theorem Ak7 {cx:Cx} {g:Gh} {st:St}: ∀ {s:CSk} {xs:List Cl} {vs:List Value},CRs cx g st xs vs→CRs cx g st (Ayy s xs) vs
 |s::r,x::xs,v::vs,h=>⟨Bat s.2 h.1,Ak7 h.2⟩
 |[],xs,vs,h=>h
 |_::_,[],[],_=>trivial
 |_::_,[],_::_,h=>h.elim
 |_::_,_::_,[],h=>h.elim
theorem Bau {cx:Cx} {g:Gh} {st:St} {s:PSk} {p:PV} {v:Value} (h:VR cx g st p v):VR cx g st (wkV s p) v:=by
 cases s with
 |v a' cs=>
  cases p with
  |v a xs=>cases a with
   |true=>obtain⟨vs,e,h⟩:=h;exact⟨vs,e,Ak7 h⟩
   |false=>exact Ak7 (xs:=xs) (vs:=[v]) h
  |_=>exact h
 |_=>exact h
theorem A6h {cx:Cx} {g:Gh} {st:St} {v:Value} {i:Nat}: ∀ {s:List (Nat×PSk)} {e:List (Nat×PV)},VR cx g st (look i e) v→VR cx g st (look i (wkE s e)) v
 |s::r,p::t,h=>by
  obtain⟨j,x⟩:=p
  simp only[wkE]
  rw[C0]at h ⊢
  by_cases hj:i=j
  ·rw[if_pos hj]at h ⊢;exact Bau h
  ·rw[if_neg hj]at h ⊢;exact A6h h
 |[],e,h=>h
 |_::_,[],h=>h
theorem Aoi {i:Nat}: ∀ {s:List (Nat×CSk)} {L:List (Nat×List Cl)},(Ch i (wkB s L)).isSome=(Ch i L).isSome∧ ∀cs,Ch i (wkB s L)=some cs→ ∃c0 k,Ch i L=some c0∧cs=Ayy k c0
 |s::r,p::t=>by
  obtain⟨j,x⟩:=p
  simp only[wkB]
  rw[R0,R0]
  by_cases hj:i=j
  ·rw[if_pos hj,if_pos hj]
   exact⟨rfl,fun cs h=>⟨x,s.2,rfl,by simpa using h.symm⟩⟩
  ·rw[if_neg hj,if_neg hj];exact Aoi
 |[],L=>⟨rfl,fun cs h=>⟨cs,[],h,by cases cs<;>rfl⟩⟩
 |_::_,[]=>⟨rfl,fun cs h=>by cases h⟩
theorem A9j (k:Sk):Ab4 (wk k):=fun cx gh st a w nt m e=>by
 obtain⟨M3,E3⟩:=m.reBox (bs:=wkB k.boxes st.boxes) (fun i cs hk=>by
  obtain⟨c0,s,h1,h2⟩:=Aoi.2 cs hk
  obtain⟨vs,ty,k1,k2,k3⟩:=m.box i c0 h1
  exact⟨Fu h1,vs,ty,k1,by rw[h2];exact Ak7 k3⟩) (fun i hi=>by
  rw[Aoi.1];exact hi)
 refine⟨gh,M3.env _,e.1,e.2.1,fun i=>?_,e.2.2.2⟩
 show VR cx gh _ (look i (wkE k.env st.env)) _
 exact((A6h (e.2.2.1 i)).ext E3).ext (V7 gh _ _)
def Pz (acc:List Nat):List Cl→List Nat
 |[]=>acc
 |⟨_,_,.own t⟩::r=>Pz (Ry acc t) r
 |⟨_,_,.row t⟩::r=>Pz (Ry acc t) r
 |⟨_,_,.bag t _⟩::r=>Pz (Ry acc t) r
 |_::r=>Pz acc r
def Aoj (acc:List Nat):List (Bool×List Cl)→List Nat
 |[]=>acc
 |x::r=>Aoj (Pz acc x.2) r
def S7 (acc:List Nat):List (Nat×PV)→List Nat
 |[]=>acc
 |(_,.v _ xs)::r=>S7 (Pz acc xs) r
 |(_,.tup l)::r=>S7 (Aoj acc l) r
 |_::r=>S7 acc r
def Agr (acc:List Nat):List (Nat×List Cl)→List Nat
 |[]=>acc
 |x::r=>Agr (Pz acc x.2) r
theorem Dc: ∀ {xs:List Cl} {acc:List Nat},acc.Nodup→(Pz acc xs).Nodup
 |[],acc,h=>h
 |⟨_,_,.own t⟩::r,acc,h=>Dc (xs:=r) (X7 h)
 |⟨_,_,.row t⟩::r,acc,h=>Dc (xs:=r) (X7 h)
 |⟨_,_,.rd⟩::r,acc,h=>Dc (xs:=r) h
 |⟨_,_,.pin _⟩::r,acc,h=>Dc (xs:=r) h
 |⟨_,_,.elt _ _ _ _ _ _ _⟩::r,acc,h=>Dc (xs:=r) h
 |⟨_,_,.bag t _⟩::r,acc,h=>Dc (xs:=r) (X7 h)
 |⟨_,_,.one _ _ _⟩::r,acc,h=>Dc (xs:=r) h
 |⟨_,_,.nst _⟩::r,acc,h=>Dc (xs:=r) h
 |⟨_,_,.prt _ _ _ _ _⟩::r,acc,h=>Dc (xs:=r) h
 |⟨_,_,.ro⟩::r,acc,h=>Dc (xs:=r) h
 |⟨_,_,.nil⟩::r,acc,h=>Dc (xs:=r) h
theorem Adk: ∀ {xs:List (Bool×List Cl)} {acc:List Nat},acc.Nodup→(Aoj acc xs).Nodup
 |[],acc,h=>h
 |x::r,acc,h=>Adk (xs:=r) (Dc (xs:=x.2) h)
theorem Hz: ∀ {xs:List (Nat×PV)} {acc:List Nat},acc.Nodup→(S7 acc xs).Nodup
 |[],acc,h=>h
 |(_,.v _ xs)::r,acc,h=>Hz (xs:=r) (Dc (xs:=xs) h)
 |(_,.tup l)::r,acc,h=>Hz (xs:=r) (Adk (xs:=l) h)
 |(_,.any)::r,acc,h=>Hz (xs:=r) h
 |(_,.box _ _)::r,acc,h=>Hz (xs:=r) h
 |(_,.el _ _ _)::r,acc,h=>Hz (xs:=r) h
theorem Adl: ∀ {xs:List (Nat×List Cl)} {acc:List Nat},acc.Nodup→(Agr acc xs).Nodup
 |[],acc,h=>h
 |x::r,acc,h=>Adl (xs:=r) (Dc (xs:=x.2) h)
def Ags (z:Nat) (ts:List Nat) (x:Cl):Cl:=
 match x with
 |⟨s,d,.own t⟩=>⟨s,d,match pos t ts with|some n=>.own (z+n)|none=>.rd⟩
 |⟨s,d,.row t⟩=>⟨s,d,match pos t ts with|some n=>.row (z+n)|none=>.rd⟩
 |⟨s,d,.elt _ _ _ _ _ _ _⟩=>⟨s,d,Ie s .rd⟩
 |⟨s,d,.bag t lo⟩=>⟨s,d,match pos t ts with|some n=>.bag (z+n) lo|none=>.rd⟩
 |⟨s,d,.one _ _ _⟩=>⟨s,d,Ie s .rd⟩
 |⟨s,d,.nst _⟩=>⟨s,d,Ie s .rd⟩
 |⟨s,d,.prt _ _ _ _ _⟩=>⟨s,d,Ie s .rd⟩
 |x=>x
def A4f (z:Nat) (ts:List Nat):PV→PV
 | .v a xs=>.v a (xs.map (Ags z ts))
 | .box b o=>.box b o
 |_=>.any
def Vw (z:Nat) (st:St):St:=
 let ts:=(Agr (S7 [] st.env) st.boxes).filter fun t=>st.live.contains t
 {env:=st.env.map fun p=>(p.1,A4f z ts p.2),boxes:=st.boxes.map fun b=>(b.1,b.2.map (Ags z ts)),live:=List.range' z ts.length,used:=List.range' z ts.length}
theorem A4g (z:Nat):Ab4 (Vw z):=fun cx gh st a w nt m e=>by
 let ts:=(Agr (S7 [] st.env) st.boxes).filter fun t=>st.live.contains t
 have hts: ∀ {n t:Nat},ts[n]? =some t→t∈st.live:=fun {n t} h=>by
  have h2:=(List.mem_filter.1 (List.mem_of_getElem? h)).2
  simpa using h2
 have hnd:ts.Nodup:=(Adl (Hz (xs:=st.env) List.nodup_nil)).filter _
 let gh':Gh:=⟨gh.G,gh.B,fun j=>gh.F (ts.getD (j-z) 0),fun j=>gh.V (ts.getD (j-z) 0),fun j=>gh.S (ts.getD (j-z) 0)⟩
 have hget0: ∀ {n t:Nat},ts[n]? =some t→ts.getD (z+n-z) 0=t:=fun {n t} h=>by
  rw[Nat.add_sub_cancel_left,List.getD_eq_getElem?_getD,h];rfl
 have hget: ∀ {n t:Nat},ts[n]? =some t→gh'.F (z+n)=gh.F t:=fun {n t} h=>by
  show gh.F (ts.getD (z+n-z) 0)=gh.F t
  rw[hget0 h]
 have hgetV: ∀ {n t:Nat},ts[n]? =some t→gh'.V (z+n)=gh.V t:=fun {n t} h=>by
  show gh.V (ts.getD (z+n-z) 0)=gh.V t
  rw[hget0 h]
 have hgetS: ∀ {n t:Nat},ts[n]? =some t→gh'.S (z+n)=gh.S t:=fun {n t} h=>by
  show gh.S (ts.getD (z+n-z) 0)=gh.S t
  rw[hget0 h]
 have hcr: ∀ {x:Cl} {v:Value},CR cx gh st x v→CR cx gh' (Vw z st) (Ags z ts x) v:=fun {x v} h=>by
  obtain⟨s,d,tk⟩:=x
  obtain⟨h1,h2⟩:=h
  cases tk with
  |ro=>exact⟨h1,h2⟩
  |rd=>exact⟨h1,trivial⟩
  |nil=>exact⟨h1,h2⟩
  |pin j=>exact⟨h1,h2⟩
  |elt t e cs l i d j=>
   refine⟨h1,?_⟩
   cases s<;>first|trivial|(intro _ _ e;cases e)
  |one _ _ _=>
   refine⟨h1,?_⟩
   cases s<;>first|trivial|(intro _ _ e;cases e)
  |nst _=>
   refine⟨h1,?_⟩
   cases s<;>first|trivial|(intro _ _ e;cases e)
  |prt _ _ _ _ _=>
   refine⟨h1,?_⟩
   cases s<;>first|trivial|(intro _ _ e;cases e)
  |bag t lo=>
   simp only[Ags]
   cases hp:pos t ts with
   |none=>exact⟨h1,trivial⟩
   |some n=>
    have hn:=Agp hp
    refine⟨h1,List.mem_range'_1.2 ⟨by omega,by have h9:=(List.getElem?_eq_some_iff.1 hn).1;show z+n<z+ts.length;omega⟩,fun _=>?_⟩
    rw[hget hn]
    exact h2.2 (hts hn)
  |own t=>
   simp only[Ags]
   cases hp:pos t ts with
   |none=>exact⟨h1,trivial⟩
   |some n=>
    have hn:=Agp hp
    refine⟨h1,List.mem_range'_1.2 ⟨by omega,by have h9:=(List.getElem?_eq_some_iff.1 hn).1;show z+n<z+ts.length;omega⟩,fun _=>?_⟩
    rw[hget hn,hgetV hn,hgetS hn]
    exact h2.2 (hts hn)
  |row t=>
   simp only[Ags]
   cases hp:pos t ts with
   |none=>exact⟨h1,trivial⟩
   |some n=>
    have hn:=Agp hp
    refine⟨h1,List.mem_range'_1.2 ⟨by omega,by have h9:=(List.getElem?_eq_some_iff.1 hn).1;show z+n<z+ts.length;omega⟩,fun _=>?_⟩
    rw[hget hn,hgetV hn,hgetS hn]
    exact h2.2 (hts hn)
 have hcrs: ∀ {xs:List Cl} {vs:List Value},CRs cx gh st xs vs→CRs cx gh' (Vw z st) (xs.map (Ags z ts)) vs:=by
  intro xs
  induction xs with
  |nil=>intro vs h;cases vs with|nil=>trivial|cons _ _=>exact h.elim
  |cons x xs ih=>intro vs h;cases vs with|nil=>exact h.elim|cons v vs=>exact⟨hcr h.1,ih h.2⟩
 have hvv: ∀ {b:Bool} {xs:List Cl} {v:Value},VRv cx gh st b xs v→VRv cx gh' (Vw z st) b (xs.map (Ags z ts)) v:=fun {b xs v} h=>by
  cases b with
  |true=>obtain⟨vs,e,h⟩:=h;exact⟨vs,e,hcrs h⟩
  |false=>exact hcrs (xs:=xs) (vs:=[v]) h
 have hmem: ∀ {t:Nat},t∈(Vw z st).live→ ∃j u,t=z+j∧ts[j]? =some u:=fun {t} ht=>by
  have h1:=List.mem_range'_1.1 (show t∈List.range' z ts.length from ht)
  exact⟨t-z,_,by omega,List.getElem?_eq_getElem (show t-z<ts.length by omega)⟩
 have hbx: ∀k,(Vw z st).bx k=(st.bx k).map fun b=>b.map (Ags z ts):=fun k=>Ui _ st.boxes k
 have hhas: ∀k,(Vw z st).has k=st.has k:=fun k=>by unfold St.has;rw[hbx];simp
 refine⟨gh',⟨m.moved,m.lies,m.g0,m.old,?_,fun i j hi hj=>m.inj i j (by rw[←hhas];exact hi) (by rw[←hhas];exact hj),fun k o hk=>m.boxG k o (by rw[←hhas];exact hk),?_,?_,?_,?_,m.new⟩,e.1,e.2.1,fun i=>?_,e.2.2.2⟩
 ·intro k cs hk
  rw[hbx]at hk
  cases hb:st.bx k with
  |none=>rw[hb]at hk;cases hk
  |some c0=>
   rw[hb]at hk
   simp at hk;subst hk
   obtain⟨vs,e',h1,h2,h3⟩:=m.box k c0 hb
   exact⟨vs,e',h1,h2,hcrs h3⟩
 ·intro t ht
  obtain⟨j,u,rfl,hu⟩:=hmem ht
  rw[hget hu]
  exact⟨ht,(m.tok u (hts hu)).2⟩
 ·intro t u ht hu htu
  obtain⟨j,x,rfl,hx⟩:=hmem ht
  obtain⟨i,y,rfl,hy⟩:=hmem hu
  rw[hget hx,hget hy]
  refine m.apart x y (hts hx) (hts hy) (fun e=>htu ?_)
  subst e
  rw[(List.getElem?_inj (List.getElem?_eq_some_iff.1 hx).1 hnd).1 (hx.trans hy.symm)]
 ·intro t k ht hk
  obtain⟨j,u,rfl,hu⟩:=hmem ht
  rw[hget hu]
  exact m.tokBox u k (hts hu) (by rw[←hhas];exact hk)
 ·exact List.nodup_range'
 ·have:(Vw z st).get i=A4f z ts (st.get i):=Xz (A4f z ts) rfl st.env i
  rw[this]
  have hv:=e.2.2.1 i
  cases hg:st.get i with
  |any=>trivial
  |v b xs=>rw[hg]at hv;exact hvv hv
  |box b o=>rw[hg]at hv;exact⟨by rw[hhas];exact hv.1,hv.2⟩
  |el _ _ _=>trivial
  |tup l=>trivial
def Tok.beq:Tok→Tok→Bool
 | .ro,.ro=>true
 | .rd,.rd=>true
 | .nil,.nil=>true
 | .own t,.own u=>Nat.beq t u
 | .row t,.row u=>Nat.beq t u
 | .pin t,.pin u=>Nat.beq t u
 |_,_=>false
theorem Tok.eq_of_beq {a b:Tok} (h:Tok.beq a b=true):a=b:=by
 unfold Tok.beq at h
 split at h
 ·rfl
 ·rfl
 ·rfl
 ·rw[Nat.eq_of_beq_eq_true h]
 ·rw[Nat.eq_of_beq_eq_true h]
 ·rw[Nat.eq_of_beq_eq_true h]
 ·cases h
@[reducible] def As3:CSk→Type→Type
 |[],R=>R
 |s::r,R=>s.1.den×As3 r R
@[reducible] def Akj:List (Nat×PSk)→Type→Type
 |[],R=>R
 |(_,.v _ cs)::r,R=>As3 cs (Akj r R)
 |(_,.any)::r,R=>Akj r R
 |(_,.box _ _)::r,R=>Akj r R
@[reducible] def Ayz:List (Nat×CSk)→Type→Type
 |[],R=>R
 |(_,cs)::r,R=>As3 cs (Ayz r R)
def mkC {R:Type}:(cs:CSk)→As3 cs R→List Cl×R
 |[],d=>([],d)
 |s::r,d=>(⟨s.1,d.1,s.2⟩::(mkC r d.2).1,(mkC r d.2).2)
def mkE {R:Type}:(e:List (Nat×PSk))→Akj e R→List (Nat×PV)×R
 |[],d=>([],d)
 |(i,.v a cs)::r,d=>((i,.v a (mkC cs d).1)::(mkE r (mkC cs d).2).1,(mkE r (mkC cs d).2).2)
 |(i,.any)::r,d=>((i,.any)::(mkE (R:=R) r d).1,(mkE (R:=R) r d).2)
 |(i,.box b o)::r,d=>((i,.box b o)::(mkE (R:=R) r d).1,(mkE (R:=R) r d).2)
def mkB {R:Type}:(e:List (Nat×CSk))→Ayz e R→List (Nat×List Cl)×R
 |[],d=>([],d)
 |(i,cs)::r,d=>((i,(mkC cs d).1)::(mkB r (mkC cs d).2).1,(mkB r (mkC cs d).2).2)
@[reducible] def Sk.den (k:Sk):Type:=Akj k.env (Ayz k.boxes Unit)
def Sk.mk' (k:Sk) (d:k.den):St:=
 {env:=(mkE k.env d).1,boxes:=(mkB k.boxes (mkE k.env d).2).1,live:=k.live,used:=k.live}
def unC {R:Type} (K:Option R):(cs:CSk)→List Cl→Option (As3 cs R)
 |[],[]=>K
 |s::r,x::xs=>ob (evS s.1 x) fun d=>chk (Tok.beq x.tok s.2) (ob (unC K r xs) fun e=>some (d,e))
 |_,_=>none
def unE {R:Type} (K:Option R):(e:List (Nat×PSk))→List (Nat×PV)→Option (Akj e R)
 |[],[]=>K
 |(i,.v a cs)::r,(j,.v b xs)::t=>chk (Nat.beq i j && a==b) (unC (unE K r t) cs xs)
 |(i,.any)::r,(j,.any)::t=>chk (Nat.beq i j) (unE K r t)
 |(i,.box b o)::r,(j,.box c p)::t=>chk (Nat.beq i j && Nat.beq b c && Nat.beq o p) (unE K r t)
 |_,_=>none
def unB {R:Type} (K:Option R):(e:List (Nat×CSk))→List (Nat×List Cl)→Option (Ayz e R)
 |[],[]=>K
 |(i,cs)::r,(j,xs)::t=>chk (Nat.beq i j) (unC (unB K r t) cs xs)
 |_,_=>none
def Ay0:List Nat→List Nat→Bool
 |[],[]=>true
 |x::r,y::t=>Nat.beq x y && Ay0 r t
 |_,_=>false
theorem As4: ∀ {a b:List Nat},Ay0 a b=true→a=b
 |[],[],_=>rfl
 |x::r,y::t,h=>by
  simp only[Ay0,Bool.and_eq_true]at h
  rw[Nat.eq_of_beq_eq_true h.1,As4 h.2]
 |[],_::_,h=>by cases h
 |_::_,[],h=>by cases h
def Sk.un (k:Sk) (st:St):Option k.den:=
 chk (Ay0 k.live st.live && Ay0 k.live st.used) (unE (unB (some ()) k.boxes st.boxes) k.env st.env)
theorem A8c {s:Sh} {x:Cl} {d:s.den} (h:evS s x=some d):x=⟨s,d,x.tok⟩:=by
 unfold evS at h
 split at h
 ·rename_i e
  obtain⟨sh,v,t⟩:=x
  simp only at e
  subst e
  simp at h;subst h;rfl
 ·cases h
theorem Aok {R:Type} {K:Option R}: ∀ {cs:CSk} {xs:List Cl} {d:As3 cs R},unC K cs xs=some d→ ∃r,K=some r∧mkC cs d=(xs,r)
 |[],[],d,h=>⟨d,h,rfl⟩
 |s::t,x::xs,d,h=>by
  simp only[unC]at h
  obtain⟨v,hv,h⟩:=Af h
  obtain⟨ht,h⟩:=A7 h
  obtain⟨e,he,h⟩:=Af h
  simp only[Option.some.injEq]at h
  subst h
  obtain⟨r,hr,hm⟩:=Aok he
  refine⟨r,hr,?_⟩
  simp only[mkC,hm]
  rw[←Tok.eq_of_beq ht,←A8c hv]
 |[],_::_,d,h=>by simp[unC]at h
 |_::_,[],d,h=>by simp[unC]at h
theorem Agt {R:Type} {K:Option R}: ∀ {cs:List (Nat×PSk)} {xs:List (Nat×PV)} {d:Akj cs R},unE K cs xs=some d→ ∃r,K=some r∧mkE cs d=(xs,r)
 |[],[],d,h=>⟨d,h,rfl⟩
 |(i,.v a cs)::t,(j,.v b xs)::ys,d,h=>by
  simp only[unE]at h
  obtain⟨hb,h⟩:=A7 h
  simp only[Bool.and_eq_true]at hb
  obtain⟨r1,h1,hm⟩:=Aok h
  obtain⟨r,hr,hm2⟩:=Agt h1
  have e1:=Nat.eq_of_beq_eq_true hb.1
  have e2:a=b:=by simpa using hb.2
  subst e1;subst e2
  exact⟨r,hr,by simp only[mkE,hm,hm2]⟩
 |(i,.any)::t,(j,.any)::ys,d,h=>by
  simp only[unE]at h
  obtain⟨hb,h⟩:=A7 h
  obtain⟨r,hr,hm2⟩:=Agt h
  have e1:=Nat.eq_of_beq_eq_true hb
  subst e1
  exact⟨r,hr,by simp only[mkE,hm2]⟩
 |(i,.box b o)::t,(j,.box c p)::ys,d,h=>by
  simp only[unE]at h
  obtain⟨hb,h⟩:=A7 h
  simp only[Bool.and_eq_true]at hb
  obtain⟨r,hr,hm2⟩:=Agt h
  have e1:=Nat.eq_of_beq_eq_true hb.1.1
  have e2:=Nat.eq_of_beq_eq_true hb.1.2
  have e3:=Nat.eq_of_beq_eq_true hb.2
  subst e1;subst e2;subst e3
  exact⟨r,hr,by simp only[mkE,hm2]⟩
 |[],_::_,d,h=>by simp[unE]at h
 |(_,.v _ _)::_,[],d,h=>by simp[unE]at h
 |(_,.v _ _)::_,(_,.any)::_,d,h=>by simp[unE]at h
 |(_,.v _ _)::_,(_,.box _ _)::_,d,h=>by simp[unE]at h
 |(_,.v _ _)::_,(_,.el _ _ _)::_,d,h=>by simp[unE]at h
 |(_,.v _ _)::_,(_,.tup _)::_,d,h=>by simp[unE]at h
 |(_,.any)::_,[],d,h=>by simp[unE]at h
 |(_,.any)::_,(_,.v _ _)::_,d,h=>by simp[unE]at h
 |(_,.any)::_,(_,.box _ _)::_,d,h=>by simp[unE]at h
 |(_,.any)::_,(_,.el _ _ _)::_,d,h=>by simp[unE]at h
 |(_,.any)::_,(_,.tup _)::_,d,h=>by simp[unE]at h
 |(_,.box _ _)::_,[],d,h=>by simp[unE]at h
 |(_,.box _ _)::_,(_,.v _ _)::_,d,h=>by simp[unE]at h
 |(_,.box _ _)::_,(_,.any)::_,d,h=>by simp[unE]at h
 |(_,.box _ _)::_,(_,.el _ _ _)::_,d,h=>by simp[unE]at h
 |(_,.box _ _)::_,(_,.tup _)::_,d,h=>by simp[unE]at h
theorem Ay1 {R:Type} {K:Option R}: ∀ {cs:List (Nat×CSk)} {xs:List (Nat×List Cl)} {d:Ayz cs R},unB K cs xs=some d→ ∃r,K=some r∧mkB cs d=(xs,r)
 |[],[],d,h=>⟨d,h,rfl⟩
 |(i,cs)::t,(j,xs)::ys,d,h=>by
  simp only[unB]at h
  obtain⟨hb,h⟩:=A7 h
  obtain⟨r1,h1,hm⟩:=Aok h
  obtain⟨r,hr,hm2⟩:=Ay1 h1
  have e1:=Nat.eq_of_beq_eq_true hb
  subst e1
  exact⟨r,hr,by simp only[mkB,hm,hm2]⟩
 |[],_::_,d,h=>by simp[unB]at h
 |_::_,[],d,h=>by simp[unB]at h
theorem A17 {k:Sk} {st:St} {d:k.den} (h:k.un st=some d):st=k.mk' d:=by
 unfold Sk.un at h
 obtain⟨hb,h⟩:=A7 h
 simp only[Bool.and_eq_true]at hb
 obtain⟨r1,h1,hm⟩:=Agt h
 obtain⟨r2,h2,hm2⟩:=Ay1 h1
 unfold Sk.mk'
 rw[hm,hm2]
 obtain⟨e,b,l,u⟩:=st
 have e1:=As4 hb.1
 have e2:=As4 hb.2
 simp only at e1 e2 ⊢
 subst e1;subst e2;rfl
def As5 (k:Sk) (z:Nat) (st:St):St:=Vw z (wk k (Ayx (z+1000) (Oy (A4c (k.env.map (·.1)) st))))
theorem P0 (k:Sk) (z:Nat):Ab4 (As5 k z):=((((A4d (k.env.map (·.1))).comp A4e).comp (A0u (z+1000))).comp (A9j k)).comp (A4g z)
def Sk.fit (k:Sk) (z:Nat) (st:St):Option k.den:=k.un (As5 k z st)
theorem X9 {k:Sk} {z:Nat} {st:St} {d:k.den} (h:k.fit z st=some d):As5 k z st=k.mk' d:=A17 h
end
end Go.Proofs.YtmhhajdeafijmaaGreat
namespace Go.Proofs.YtmhhajdeafijmaaGreat
open Go.RowKit
set_option linter.unusedVariables false
set_option linter.unusedSectionVars false
set_option linter.unusedSimpArgs false
noncomputable section

theorem Bs.split: ∀ {cs:List Sh} {h:Aa} {d:dens cs} {c:List Value},Bs h cs d c→ ∃fs:Nat→Aa,(∀j sg,Do cs d j=some sg→ ∃u,c[j]? =some u∧Bb (fs j) sg.sh sg.val u)∧(∀j,(fs j).sub h)∧ ∀j j',j≠j'→(fs j).apart (fs j')
 |[],h,d,c,_=>⟨fun _=>Aa.emp,fun j sg hj=>by simp[Do]at hj,fun j=>Aa.emp_sub _,fun _ _ _=>Aa.apart_emp _⟩
 |s::r,h,d,c,ho=>by
  simp only[Bs]at ho
  obtain⟨v,t,g,h',rfl,hp,h1,h2⟩:=ho
  obtain⟨fs,q1,q2,q3⟩:=Bs.split h2
  have ha:g.apart h':=(List.pairwise_cons.1 hp.1).1 h' (by simp)
  refine⟨fun j=>match j with|0=>g|j+1=>fs j,?_,?_,?_⟩
  ·intro j sg hj
   cases j with
   |zero=>simp[Do]at hj;subst hj;exact⟨v,rfl,h1⟩
   |succ j=>simp only[Do]at hj;obtain⟨u,e,ho⟩:=q1 j sg hj;exact⟨u,by simpa using e,ho⟩
  ·intro j
   cases j with
   |zero=>exact hp.2 g (by simp)
   |succ j=>exact Aa.sub_trans (q2 j) (hp.2 h' (by simp))
  ·intro j j' hne
   cases j with
   |zero=>cases j' with
    |zero=>exact(hne rfl).elim
    |succ j'=>exact Aa.apart_sub ha (Aa.sub_refl _) (q2 j')
   |succ j=>cases j' with
    |zero=>exact Aa.apart_symm (Aa.apart_sub ha (Aa.sub_refl _) (q2 j))
    |succ j'=>exact q3 j j' (fun e=>hne (by rw[e]))
theorem A9k {cx:Cx} {w:World} {g:Gh} {st:St} (hM:RM cx g st w) {t e:Nat} {cs:List Sh} {l:List (dens cs)} {v:Value} (ht:t∈st.live) (hrd:RdD g.G (.sl e cs) l v) (ho:Bb (g.F t) (.sl e cs) l v) (lo:Nat):Xy g.G (g.F t) cs l lo v:=by
 simp only[Bb]at ho
 obtain⟨css,rw_,hs,r1,r2,r3⟩:=ho
 simp only[RdD]at hrd
 obtain⟨ad,cap0,hv,hcap,hmax,hnil,hel⟩:=hrd
 obtain⟨hl1,⟨⟨a',hE'⟩,hz'⟩|⟨b,cap,cur,hE',hg',hnc,hcm,hsz,htk⟩⟩:=r1
 ·have hl0:l=[]:=List.eq_nil_of_length_eq_zero hz'
  subst hl0
  exact⟨0,fun _=>Aa.emp,fun _=>[],fun i d _ hd=>by simp at hd,fun i i' _ _ _ _ _=>Aa.apart_emp _⟩
 ·have hFr:(g.F t) b=some (.cells cur e (0,0)):=r2.2 rw_ (by simp) b _ hg'
  have hw:=(hM.tok t ht).2.1 b _ hFr
  refine⟨b,fun i=>hs.getD i Aa.emp,fun i=>css.getD i [],fun i d hi hd=>?_,fun i i' _ _ hi hi' hne=>?_⟩
  ·have hlt:i<l.length:=(List.getElem?_eq_some_iff.1 hd).1
   have hih:i<hs.length:=by rw[r3.2.1];exact hlt
   have hic:i<css.length:=by rw[r3.1];exact hlt
   have eh:hs.getD i Aa.emp=hs[i]:=by simp[List.getD_eq_getElem?_getD,List.getElem?_eq_getElem hih]
   have ec:css.getD i []=css[i]:=by simp[List.getD_eq_getElem?_getD,List.getElem?_eq_getElem hic]
   obtain⟨hlen,hown⟩:=r3.2.2 i _ _ d (List.getElem?_eq_getElem hih) (List.getElem?_eq_getElem hic) hd
   refine⟨⟨_,_,hE'⟩,by show Bs (hs.getD i Aa.emp) cs d (css.getD i []);rw[eh,ec];exact hown,by show Aa.sub (hs.getD i Aa.emp) _;rw[eh];exact r2.2 _ (by simp[List.getElem_mem]),fun j u hu=>?_⟩
   have hu':css[i][j]? =some u:=by rw[←ec];exact hu
   have hj:j<cs.length:=by have:=(List.getElem?_eq_some_iff.1 hu').1;omega
   obtain⟨b2,o2,e2,hrds⟩:=hel i d hd
   rw[e2,hE']at hv
   simp only[Value.slice.injEq,Option.some.injEq,Addr.mk.injEq]at hv
   obtain⟨⟨rfl,rfl,_⟩,_,_⟩:=hv
   have key: ∀ {cs:List Sh} {d:dens cs} {b o:Nat},Dp g.G cs d b o→ ∀j,j<cs.length→ ∃x,g.G b (o+j)=some x:=by
    intro cs
    induction cs with
    |nil=>intro d b o _ j hj;simp at hj
    |cons s r ih=>
     intro d b o h j hj
     simp only[Dp]at h
     cases j with
     |zero=>obtain⟨⟨x,hx,_⟩,_⟩:=h;exact⟨x,hx⟩
     |succ j=>obtain⟨x,hx⟩:=ih h.2 j (by simpa using hj);exact⟨x,by rw[show o+(j+1)=o+1+j by omega];exact hx⟩
   obtain⟨x,hx⟩:=key hrds j hj
   have h1:=hM.lies _ _ _ hx
   rw[cell_of_row w b _ cur e (0,0) hw]at h1
   have hflat:css.flatten[i*cs.length+j]? =some u:=by
    rw[Fa r3.len (List.getElem?_eq_getElem hic) hj];exact hu'
   rw[←htk,List.getElem?_take]at hflat
   split at hflat
   ·rw[Nat.zero_add]at hx h1
    have:cur[i*cs.length+j]? =some u:=by simpa using hflat
    rw[this]at h1
    cases h1
    exact hx
   ·cases hflat
  ·have hih:i<hs.length:=by rw[r3.2.1];exact hi
   have hih':i'<hs.length:=by rw[r3.2.1];exact hi'
   have eh:hs.getD i Aa.emp=hs[i]:=by simp[List.getD_eq_getElem?_getD,List.getElem?_eq_getElem hih]
   have eh':hs.getD i' Aa.emp=hs[i']:=by simp[List.getD_eq_getElem?_getD,List.getElem?_eq_getElem hih']
   show Aa.apart (hs.getD i Aa.emp) (hs.getD i' Aa.emp)
   rw[eh,eh']
   have hpw:=(List.pairwise_cons.1 r2.1).2
   rcases Nat.lt_or_ge i i' with h|h
   ·exact List.pairwise_iff_getElem.1 hpw i i' hih hih' h
   ·exact Aa.apart_symm (List.pairwise_iff_getElem.1 hpw i' i hih' hih (by omega))
theorem Xy.mono {G:A6} {F:Aa} {cs:List Sh} {l:List (dens cs)} {lo lo':Nat} {v:Value} (h:Xy G F cs l lo v) (hl:lo≤lo'):Xy G F cs l lo' v:=by
 obtain⟨b,h,c,h1,h2⟩:=h
 exact⟨b,h,c,fun i d hi hd=>h1 i d (by omega) hd,fun i i' hi hi'=>h2 i i' (by omega) (by omega)⟩
def Gp (j:Nat) (p:PV):List (Nat×PV)→List (Nat×PV)
 |[]=>[]
 |(i,q)::r=>cond (Nat.beq i j) ((i,p)::r) ((i,q)::Gp j p r)
theorem Gq {j:Nat} {p:PV} (i:Nat): ∀(e:List (Nat×PV)),(i≠j→look i (Gp j p e)=look i e)∧(look j e≠ .any→look j (Gp j p e)=p)
 |[]=>⟨fun _=>rfl,fun h=>(h rfl).elim⟩
 |(k,q)::r=>by
  obtain⟨h1,h2⟩:=Gq (p:=p) (j:=j) i r
  simp only[Gp]
  cases hb:Nat.beq k j with
  |true=>
   have e:=Nat.eq_of_beq_eq_true hb
   subst e
   refine⟨fun hne=>?_,fun _=>?_⟩
   ·rw[cond_true,C0,C0,if_neg hne,if_neg hne]
   ·rw[cond_true,C0,if_pos rfl]
  |false=>
   have hne':j≠k:=fun e=>by subst e;simp at hb
   refine⟨fun hne=>?_,fun hn=>?_⟩
   ·rw[cond_false,C0,C0,h1 hne]
   ·rw[cond_false,C0,if_neg hne']
    rw[C0,if_neg hne']at hn
    exact h2 hn
theorem Aus {j:Nat} {p q:PV}: ∀(e:List (Nat×PV)),Gp j p (Gp j q e)=Gp j p e
 |[]=>rfl
 |(k,r)::t=>by
  simp only[Gp]
  cases hb:Nat.beq k j with
  |true=>simp only[cond_true,Gp,hb]
  |false=>simp only[cond_false,Gp,hb,Aus t]
def L6 (j k:Nat) (st:St):St:=match st.get j,st.get k with
 | .v false [⟨.sl e cs,l,.own t⟩],.v false [⟨.int .i64,x,_⟩]=>{st with env:=Gp j (.v false [⟨.sl e cs,l,.bag t (Int.toNat x)⟩]) st.env}
 |_,_=>st
def Ard (j k z:Nat) (st:St):St:=match st.get j,st.get k with
 | .v false [⟨.sl e cs,l,.own t⟩],.v false [⟨.int .i64,x,_⟩]=>
  {st with env:=Gp j (.v false [⟨.sl e cs,l,.one z (Int.toNat x) (z+cs.length)⟩]) st.env,live:=List.range' z (cs.length+1)++st.live.erase t,used:=List.range' z (cs.length+1)++st.used}
 |_,_=>st
def Ay2 (j k:Nat) (st:St):Bool:=match st.get j,st.get k with
 | .v false [⟨.sl e cs,l,.bag t lo⟩],.v false [⟨.int .i64,x,_⟩]=>Nat.ble lo (Int.toNat x)
 |_,_=>false
def Akk (j k:Nat) (st:St):St:=match st.get j,st.get k with
 | .v false [⟨.sl e cs,l,.bag t lo⟩],.v false [⟨.int .i64,x,_⟩]=>{st with env:=Gp j (.v false [⟨.sl e cs,l,.own t⟩]) st.env}
 |_,_=>st
theorem A8d {cx:Cx} {w:World} {g:Gh} {st:St} {nt j k:Nat} {a:Act} (hM:RM cx g st w) (hE:Env nt cx g st a):RM cx g (L6 j k st) w∧Env nt cx g (L6 j k st) a:=by
 unfold L6
 split
 ·rename_i e cs l t x tk hj hk
  refine⟨hM.env _,hE.1,hE.2.1,fun i=>?_,hE.2.2.2⟩
  have hv:=hE.2.2.1 i
  show VR cx g _ (look i (Gp j _ st.env)) _
  by_cases hi:i=j
  ·subst hi
   rw[(Gq i st.env).2 (by show st.get i≠ .any;rw[hj];exact fun h=>by cases h)]
   rw[hj]at hv
   obtain⟨h1,_⟩:=hv
   obtain⟨h1,h2,h3⟩:=h1
   exact⟨⟨h1,h2,fun ht=>A9k hM ht h1 (h3 ht).1 _⟩,trivial⟩
  ·rw[(Gq i st.env).1 hi]
   exact hv.ext (V7 g st _)
 ·exact⟨hM,hE⟩
theorem A6i {cx:Cx} {w:World} {g:Gh} {st:St} {nt j k:Nat} {a:Act} (h:Ay2 j k st=true) (hM:RM cx g st w) (hE:Env nt cx g st a):RM cx g (L6 j k (Akk j k st)) w∧Env nt cx g (L6 j k (Akk j k st)) a:=by
 unfold Ay2 at h
 split at h
 ·rename_i e cs l t lo x tk hj hk
  have hle:=Nat.le_of_ble_eq_true h
  have hcl:Akk j k st={st with env:=Gp j (.v false [⟨.sl e cs,l,.own t⟩]) st.env}:=by
   unfold Akk
   rw[hj,hk]
  rw[hcl]
  have hne:k≠j:=fun e=>by subst e;rw[hj]at hk;cases hk
  have e:L6 j k {st with env:=Gp j (.v false [⟨.sl e cs,l,.own t⟩]) st.env}={st with env:=Gp j (.v false [⟨.sl e cs,l,.bag t (Int.toNat x)⟩]) st.env}:=by
   have g1:({st with env:=Gp j (.v false [⟨.sl e cs,l,.own t⟩]) st.env}:St).get j= .v false [⟨.sl e cs,l,.own t⟩]:=(Gq j st.env).2 (by show st.get j≠ .any;rw[hj];exact fun h=>by cases h)
   have g2:({st with env:=Gp j (.v false [⟨.sl e cs,l,.own t⟩]) st.env}:St).get k= .v false [⟨.int .i64,x,tk⟩]:=((Gq k st.env).1 hne).trans hk
   unfold L6
   rw[g1,g2]
   simp only[Aus]
  rw[e]
  refine⟨hM.env _,hE.1,hE.2.1,fun i=>?_,hE.2.2.2⟩
  have hv:=hE.2.2.1 i
  show VR cx g _ (look i (Gp j _ st.env)) _
  by_cases hi:i=j
  ·subst hi
   rw[(Gq i st.env).2 (by show st.get i≠ .any;rw[hj];exact fun h=>by cases h)]
   rw[hj]at hv
   obtain⟨h1,_⟩:=hv
   obtain⟨h1,h2,h3⟩:=h1
   exact⟨⟨h1,h2,fun ht=>Xy.mono (h3 ht) hle⟩,trivial⟩
  ·rw[(Gq i st.env).1 hi]
   exact hv.ext (V7 g st _)
 ·cases h
end
end Go.Proofs.YtmhhajdeafijmaaGreat
namespace Go.Proofs.YtmhhajdeafijmaaGreat
open Go.RowKit
set_option linter.unusedVariables false
set_option linter.unusedSectionVars false
set_option linter.unusedSimpArgs false
noncomputable section

def A8e:Sh→Value→Bool
 | .int k,.int j n=>decide (k=j) && decide (n=0)
 | .bool,.bool b=> !b
 | .str,.string s=>Nat.beq s.size 0
 | .sl _ _,.slice none 0 0=>true
 |_,_=>false
theorem A9l: ∀ {s:Sh} {v:Value},A8e s v=true→v=zv s:=by
 intro s v h
 unfold A8e at h
 split at h
 ·simp at h;obtain⟨rfl,rfl⟩:=h;rfl
 ·simp at h;subst h;rfl
 ·rename_i s
  have h1:s.size=0:=Nat.eq_of_beq_eq_true h
  have:s=ByteArray.empty:=by
   cases s with|mk d=>
   have h2:d.size=0:=h1
   have:d= #[]:=Array.size_eq_zero_iff.1 h2
   subst this;rfl
  subst this;rfl
 ·rfl
 ·cases h
def Agu:List Sh→List Value→Bool
 |[],[]=>true
 |s::r,v::t=>A8e s v && Agu r t
 |_,_=>false
theorem Aol: ∀ {s:List Sh} {v:List Value},Agu s v=true→v=s.map zv
 |[],[],_=>rfl
 |s::r,v::t,h=>by
  simp only[Agu,Bool.and_eq_true]at h
  rw[A9l h.1,Aol h.2];rfl
 |[],_::_,h=>by simp[Agu]at h
 |_::_,[],h=>by simp[Agu]at h
def Ab5 (P:Program):List Field→List (Nat×Nat)→Bool
 |[],[]=>true
 |f::fs,(off,sz)::r=>Nat.beq f.offset off && (match P.info? f.type with|some i=>Nat.beq i.size sz && Nat.blt 0 i.size|none=>false) && Ab5 P fs r
 |_,_=>false
theorem A18 {P:Program}: ∀ {fs:List Field} {r:List (Nat×Nat)},Ab5 P fs r=true→ ∀(j off sz:Nat),r[j]? =some (off,sz)→ ∃(f:Field) (fi:TypeInfo),fs[j]? =some f∧f.offset=off∧P.info? f.type=some fi∧fi.size=sz∧0<sz
 |[],[],_,j,off,sz,h=>by simp at h
 |f::fs,(o,s)::r,h,j,off,sz,hj=>by
  simp only[Ab5,Bool.and_eq_true]at h
  cases j with
  |zero=>
   simp at hj
   obtain⟨rfl,rfl⟩:=hj
   obtain⟨⟨h1,h2⟩,_⟩:=h
   cases hi:P.info? f.type with
   |none=>rw[hi]at h2;cases h2
   |some i=>
    rw[hi]at h2
    simp only[Bool.and_eq_true]at h2
    have e1:=Nat.eq_of_beq_eq_true h2.1
    have e2:0<i.size:=Nat.le_of_ble_eq_true h2.2
    exact⟨f,i,rfl,Nat.eq_of_beq_eq_true h1,hi,e1,e1▸e2⟩
  |succ j=>exact A18 h.2 j off sz (by simpa using hj)
 |[],_::_,h,_,_,_,_=>by simp[Ab5]at h
 |_::_,[],h,_,_,_,_=>by simp[Ab5]at h
theorem Ay3 {P:Program}: ∀ {fs:List Field} {r:List (Nat×Nat)},Ab5 P fs r=true→fs.mapM (fun f=>(P.info? f.type).map fun i=>(f.offset,i.size))=some r
 |[],[],_=>rfl
 |f::fs,(o,s)::r,h=>by
  simp only[Ab5,Bool.and_eq_true]at h
  obtain⟨⟨h1,h2⟩,h3⟩:=h
  cases hi:P.info? f.type with
  |none=>rw[hi]at h2;cases h2
  |some i=>
   rw[hi]at h2
   simp only[Bool.and_eq_true]at h2
   simp[List.mapM_cons,hi,Ay3 h3,Nat.eq_of_beq_eq_true h1,Nat.eq_of_beq_eq_true h2.1]
 |[],_::_,h=>by simp[Ab5]at h
 |_::_,[],h=>by simp[Ab5]at h
def eqB (P:Program):List Field→List Sh→Nat→Bool
 |[],[],_=>true
 |f::fs,s::r,off=>(f.name != "_") && Nat.beq f.offset off && (match s,P.underlying f.type with| .int _,some (.int _)=>true| .bool,some .bool=>true|_,_=>false) && eqB P fs r (off+1)
 |_,_,_=>false
theorem A6j {P:Program}: ∀ {fs:List Field} {r:List Sh} {off:Nat},eqB P fs r off=true→Aqu P fs r off
 |[],[],_,_=>trivial
 |f::fs,s::r,off,h=>by
  simp only[eqB,Bool.and_eq_true]at h
  obtain⟨⟨⟨h1,h2⟩,h3⟩,h4⟩:=h
  refine⟨by simpa using h1,Nat.eq_of_beq_eq_true h2,?_,A6j h4⟩
  split at h3
  ·rename_i k heq;exact⟨_,heq⟩
  ·rename_i heq;exact heq
  ·cases h3
 |[],_::_,_,h=>by simp[eqB]at h
 |_::_,[],_,h=>by simp[eqB]at h
def A8f (P:Program) (e:Nat) (cs:List Sh):Bool:=
 match cs with
 |[.int k]=>(match P.underlying e with|some (.int j)=>decide (k=j)|_=>false)
 |_=>true
theorem A9m {P:Program} {e:Nat} {cs:List Sh} (h:A8f P e cs=true) (k:IntKind) (hk:cs=[.int k]):P.underlying e=some (.int k):=by
 subst hk
 simp only[A8f]at h
 split at h
 ·rename_i j hj;simp at h;subst h;exact hj
 ·cases h
def A8g (P:Program) (e:Nat) (cs:List Sh):Bool:=
 match P.info? e with
 |some i=>(match i.zero with|some z=>Nat.beq z.cells.size cs.length && Agu cs z.cells.toList|none=>false) && Nat.beq i.size cs.length && Nat.blt 0 cs.length && Nat.ble i.bytes 4096 && Nat.ble cs.length 4096 && A8f P e cs
 |none=>false
theorem A9n {P:Program} {t e:Nat} {cs:List Sh} (hu:P.underlying t=some (.slice e)) (h:A8g P e cs=true):(∃z b,RowTy P t e z cs.length b∧b≤4096∧z.cells.toList=cs.map zv)∧cs.length≤4096∧ ∀k,cs=[.int k]→P.underlying e=some (.int k):=by
 unfold A8g at h
 cases hi:P.info? e with
 |none=>rw[hi]at h;cases h
 |some i=>
  rw[hi]at h
  simp only[Bool.and_eq_true]at h
  obtain⟨⟨⟨⟨⟨h1,h2⟩,h3⟩,h4⟩,h5⟩,h6⟩:=h
  cases hz:i.zero with
  |none=>rw[hz]at h1;cases h1
  |some z=>
   rw[hz]at h1
   simp only[Bool.and_eq_true]at h1
   exact⟨⟨z,i.bytes,⟨hu,by rw[hi];simp[hz,Nat.eq_of_beq_eq_true h2],Nat.eq_of_beq_eq_true h1.1,Nat.le_of_ble_eq_true h3⟩,Nat.le_of_ble_eq_true h4,Aol h1.2⟩,Nat.le_of_ble_eq_true h5,A9m h6⟩
def Ay4:List Field→List Nat→Bool
 |_,[]=>true
 |f::fs,u::r=>Nat.beq f.type u && Ay4 fs r
 |[],_::_=>false
theorem A19: ∀ {fs:List Field} {r:List Nat},Ay4 fs r=true→ ∀(j u:Nat),r[j]? =some u→ ∃f:Field,fs[j]? =some f∧f.type=u
 |_,[],_,j,u,h=>by simp at h
 |f::fs,x::r,h,j,u,hj=>by
  simp only[Ay4,Bool.and_eq_true]at h
  cases j with
  |zero=>simp at hj;exact⟨f,rfl,(Nat.eq_of_beq_eq_true h.1).trans hj⟩
  |succ j=>exact A19 h.2 j u (by simpa using hj)
 |[],_::_,h,_,_,_=>by simp[Ay4]at h
def A6k (P:Program) (t:Nat) (T:Ty):Bool:=match P.underlying t with
 |some (.struct fs)=>Ay4 fs.toList T.fty
 |_=>T.fty.isEmpty
def A6l (P:Program) (t:Nat) (T:Ty):Bool:=
 match P.info? t,P.underlying t with
 |some i,some d=>
  Nat.beq i.size T.shs.length && (match i.zero with|some z=>Agu T.shs z.cells.toList|none=>false) && (d.isRow==T.agg) && (T.agg || Nat.beq T.shs.length 1) &&
  (match d with
   | .struct fs=>T.agg && Ab5 P fs.toList T.offs && (!T.eq || (!P.stoodInHeld t && !P.eqGuardType P.depth t && eqB P fs.toList T.shs 0))
   | .slice e=>T.offs.isEmpty && (match T.shs with|[.sl e' cs]=>Nat.beq e e' && A8g P e cs|_=>false)
   | .int k=>T.offs.isEmpty && (match T.shs with|[.int j]=>decide (k=j)|_=>false)
   | .bool=>T.offs.isEmpty && (match T.shs with|[.bool]=>true|_=>false)
   | .string=>T.offs.isEmpty && (match T.shs with|[.str]=>true|_=>false)
   |_=>false)
 |_,_=>false
def A4h (P:Program) (t:Nat) (T:Ty):Bool:=A6k P t T && A6l P t T
theorem A9o {P:Program} {t:Nat} {T:Ty} (h:A4h P t T=true):TyOk P t T:=by
 unfold A4h at h
 simp only[Bool.and_eq_true]at h
 obtain⟨hft,h⟩:=h
 have hfty: ∀(j u:Nat),T.fty[j]? =some u→ ∃(fs:Array Field) (f:Field),P.underlying t=some (.struct fs)∧fs[j]? =some f∧f.type=u:=by
  unfold A6k at hft
  split at hft
  ·rename_i fs hfs
   intro j u hj
   obtain⟨f,h1,h2⟩:=A19 hft j u hj
   exact⟨fs,f,hfs,by simpa using h1,h2⟩
  ·intro j u hj
   rw[List.isEmpty_iff.1 hft]at hj
   simp at hj
 unfold A6l at h
 split at h
 ·rename_i i d hi hu
  simp only[Bool.and_eq_true]at h
  obtain⟨⟨⟨⟨h1,h2⟩,h3⟩,h4⟩,h5⟩:=h
  have hd:d.isRow=T.agg:=by simpa using h3
  have e1:=Nat.eq_of_beq_eq_true h1
  have hone:T.agg=false→T.shs.length=1:=fun ha=>by
   rw[ha]at h4;exact Nat.eq_of_beq_eq_true (by simpa using h4)
  cases hz:i.zero with
  |none=>rw[hz]at h2;cases h2
  |some z=>
   rw[hz]at h2
   have hzz:=Aol h2
   have hinf: ∃i z d,P.info? t=some i∧i.size=T.shs.length∧i.zero=some z∧z.cells.toList=T.shs.map zv∧P.underlying t=some d∧d.isRow=T.agg:=⟨i,z,d,hi,e1,hz,hzz,hu,hd⟩
   have nof:T.offs.isEmpty=true→(∀(j off sz:Nat),T.offs[j]? =some (off,sz)→ ∃fs f fi,P.underlying t=some (.struct fs)∧fs[j]? =some f∧f.offset=off∧P.info? f.type=some fi∧fi.size=sz∧0<sz)∧(0<T.offs.length→ ∃fs:Array Field,P.underlying t=some (.struct fs)∧fs.toList.mapM (fun f=>(P.info? f.type).map fun i=>(f.offset,i.size))=some T.offs):=fun he=>by
    rw[List.isEmpty_iff.1 he]
    exact⟨fun j off sz h=>by simp at h,fun h=>by simp at h⟩
   split at h5
   ·rename_i fs
    simp only[Bool.and_eq_true]at h5
    obtain⟨⟨ha,hf⟩,heq⟩:=h5
    have na: ∀ {p:Prop},T.agg=false→p:=fun hn=>by rw[ha]at hn;cases hn
    refine⟨hinf,fun j off sz hj=>?_,fun _=>⟨fs,hu,Ay3 hf⟩,fun _ _ hn=>na hn,fun _ _ hn=>na hn,fun _ _ hn=>na hn,fun _ hn=>na hn,fun hn=>na hn,fun hn=>na hn,fun _ he=>?_,hone,hfty⟩
    ·obtain⟨f,fi,q1,q2⟩:=A18 hf j off sz hj
     exact⟨fs,f,fi,hu,by simpa using q1,q2⟩
    ·rw[he]at heq
     simp only[Bool.not_true,Bool.false_or,Bool.and_eq_true,Bool.not_eq_true']at heq
     have hfs:P.fieldsOf t=fs:=by unfold Program.fieldsOf;rw[hu]
     rw[hfs]
     exact⟨hu,heq.1.1,heq.1.2,A6j heq.2⟩
   ·rename_i e
    simp only[Bool.and_eq_true]at h5
    obtain⟨ho,h5⟩:=h5
    split at h5
    ·rename_i e' cs hs
     simp only[Bool.and_eq_true]at h5
     have e2:=Nat.eq_of_beq_eq_true h5.1
     subst e2
     obtain⟨r1,r2,r3⟩:=A9n hu h5.2
     have nag:T.agg=false:=by rw[←hd]
     refine⟨hinf,(nof ho).1,(nof ho).2,fun e' cs' _ hs'=>?_,fun e' cs' _ hs'=>?_,fun e' k _ hs'=>?_,fun k _ hs'=>?_,fun _ hs'=>?_,fun _ hs'=>?_,fun hn=>?_,hone,hfty⟩
     ·rw[hs]at hs';cases hs';exact⟨hu,r1⟩
     ·rw[hs]at hs';cases hs';exact r2
     ·rw[hs]at hs';cases hs';exact r3 _ rfl
     ·rw[hs]at hs';cases hs'
     ·rw[hs]at hs';cases hs'
     ·rw[hs]at hs';cases hs'
     ·rw[nag]at hn;cases hn
    ·cases h5
   ·rename_i k
    simp only[Bool.and_eq_true]at h5
    obtain⟨ho,h5⟩:=h5
    split at h5
    ·rename_i j hs
     have e2:k=j:=by simpa using h5
     subst e2
     have nag:T.agg=false:=by rw[←hd]
     refine⟨hinf,(nof ho).1,(nof ho).2,fun e' cs' _ hs'=>?_,fun e' cs' _ hs'=>?_,fun e' k _ hs'=>?_,fun k _ hs'=>?_,fun _ hs'=>?_,fun _ hs'=>?_,fun hn=>?_,hone,hfty⟩
     ·rw[hs]at hs';cases hs'
     ·rw[hs]at hs';cases hs'
     ·rw[hs]at hs';cases hs'
     ·rw[hs]at hs';cases hs';exact hu
     ·rw[hs]at hs';cases hs'
     ·rw[hs]at hs';cases hs'
     ·rw[nag]at hn;cases hn
    ·cases h5
   ·simp only[Bool.and_eq_true]at h5
    obtain⟨ho,h5⟩:=h5
    split at h5
    ·rename_i hs
     have nag:T.agg=false:=by rw[←hd]
     refine⟨hinf,(nof ho).1,(nof ho).2,fun e' cs' _ hs'=>?_,fun e' cs' _ hs'=>?_,fun e' k _ hs'=>?_,fun k _ hs'=>?_,fun _ hs'=>?_,fun _ hs'=>?_,fun hn=>?_,hone,hfty⟩
     ·rw[hs]at hs';cases hs'
     ·rw[hs]at hs';cases hs'
     ·rw[hs]at hs';cases hs'
     ·rw[hs]at hs';cases hs'
     ·rw[hs]at hs';cases hs'
     ·exact hu
     ·rw[nag]at hn;cases hn
    ·cases h5
   ·simp only[Bool.and_eq_true]at h5
    obtain⟨ho,h5⟩:=h5
    split at h5
    ·rename_i hs
     have nag:T.agg=false:=by rw[←hd]
     refine⟨hinf,(nof ho).1,(nof ho).2,fun e' cs' _ hs'=>?_,fun e' cs' _ hs'=>?_,fun e' k _ hs'=>?_,fun k _ hs'=>?_,fun _ hs'=>?_,fun _ hs'=>?_,fun hn=>?_,hone,hfty⟩
     ·rw[hs]at hs';cases hs'
     ·rw[hs]at hs';cases hs'
     ·rw[hs]at hs';cases hs'
     ·rw[hs]at hs';cases hs'
     ·exact hu
     ·rw[hs]at hs';cases hs'
     ·rw[nag]at hn;cases hn
    ·cases h5
   ·cases h5
 ·cases h
end
end Go.Proofs.YtmhhajdeafijmaaGreat
namespace Go.Proofs.YtmhhajdeafijmaaGreat
open Go.RowKit
set_option linter.unusedVariables false
set_option linter.unusedSectionVars false
set_option linter.unusedSimpArgs false
noncomputable section

inductive Iter {D O:Type} (B:D→Option (D⊕O)):D→O→Prop
 |more {d d':D} {o:O} (h:B d=some (.inl d')) (t:Iter B d' o):Iter B d o
 |done {d:D} {o:O} (h:B d=some (.inr o)):Iter B d o
theorem Iter.uniq {D O:Type} {B:D→Option (D⊕O)} {d:D} {o o':O} (h:Iter B d o) (k:Iter B d o'):o=o':=by
 induction h with
 |more h t ih=>
  cases k with
  |more h' t'=>rw[h]at h';cases h';exact ih t'
  |done h'=>rw[h]at h';cases h'
 |done h=>
  cases k with
  |more h' t'=>rw[h]at h';cases h'
  |done h'=>rw[h]at h';cases h';rfl
open Classical in
def Ay {D O:Type} (B:D→Option (D⊕O)) (d:D):Option O:=if h: ∃o,Iter B d o then some h.choose else none
theorem R7 {D O:Type} {B:D→Option (D⊕O)} {d:D} {o:O} (h:Ay B d=some o):Iter B d o:=by
 unfold Ay at h
 split at h
 ·rename_i hx;simp at h;subst h;exact hx.choose_spec
 ·cases h
theorem Aom {D O:Type} {B:D→Option (D⊕O)} {d:D} {o:O} (h:Iter B d o):Ay B d=some o:=by
 unfold Ay
 have hx: ∃o,Iter B d o:=⟨o,h⟩
 rw[dif_pos hx,hx.choose_spec.uniq h]
theorem C9 {D O:Type} (B:D→Option (D⊕O)) (d:D):Ay B d=match B d with|none=>none|some (.inl d')=>Ay B d'|some (.inr o)=>some o:=by
 cases hb:B d with
 |none=>
  cases h:Ay B d with
  |none=>rfl
  |some o=>
   have:=R7 h
   cases this with
   |more h' _=>rw[hb]at h';cases h'
   |done h'=>rw[hb]at h';cases h'
 |some x=>
  cases x with
  |inr o=>exact Aom (.done hb)
  |inl d'=>
   simp only
   cases h:Ay B d' with
   |some o=>exact Aom (.more hb (R7 h))
   |none=>
    cases h2:Ay B d with
    |none=>rfl
    |some o=>
     have:=R7 h2
     cases this with
     |more h' t=>rw[hb]at h';cases h';rw[Aom t]at h;cases h
     |done h'=>rw[hb]at h';cases h'
def Ex.beq:Ex→Ex→Bool
 | .normal,.normal=>true
 | .exit i,.exit j=>Nat.beq i j
 | .ret,.ret=>true
 |_,_=>false
theorem Ex.eq_of_beq {a b:Ex} (h:Ex.beq a b=true):a=b:=by
 unfold Ex.beq at h
 split at h
 ·rfl
 ·rw[Nat.eq_of_beq_eq_true h]
 ·rfl
 ·cases h
@[reducible] def O0:List (Ex×Sk)→Type
 |[]=>Unit
 |[x]=>x.2.den
 |x::y::r=>x.2.den⊕O0 (y::r)
def Agv (z:Nat):(xs:List (Ex×Sk))→Ex→St→Option (O0 xs)
 |[],_,_=>none
 |[x],e,s=>cond (Ex.beq x.1 e) (x.2.fit z s) none
 |x::y::r,e,s=>cond (Ex.beq x.1 e) (ob (x.2.fit z s) fun d=>some (.inl d)) (ob (Agv z (y::r) e s) fun d=>some (.inr d))
def R8:(xs:List (Ex×Sk))→O0 xs→Tree (Ex×St)
 |[],_=>.fail
 |[x],d=>.leaf (x.1,x.2.mk' d)
 |x::y::r,o=>.sm o (fun d=>.leaf (x.1,x.2.mk' d)) fun o'=>R8 (y::r) o'
theorem Ab6 {z:Nat} {e e':Ex} {s st':St}: ∀ {xs:List (Ex×Sk)} {o:O0 xs},Agv z xs e s=some o→(R8 xs o).val=some (e',st')→e'=e∧ ∃k,st'=As5 k z s
 |[],o,h,_=>by cases h
 |[x],o,h,k=>by
  simp only[Agv]at h
  cases hb:Ex.beq x.1 e with
  |false=>rw[hb]at h;cases h
  |true=>
   rw[hb]at h
   have hf:x.2.fit z s=some o:=h
   simp[R8,Tree.val,Tree.run]at k
   obtain⟨rfl,rfl⟩:=k
   exact⟨Ex.eq_of_beq hb,x.2,(X9 hf).symm⟩
 |x::y::r,o,h,k=>by
  simp only[Agv]at h
  cases hb:Ex.beq x.1 e with
  |false=>
   rw[hb]at h
   obtain⟨o',ho',h⟩:=Af (show ob (Agv z (y::r) e s) (fun d=>some (Sum.inr d))=some o from h)
   simp at h;subst h
   exact Ab6 ho' k
  |true=>
   rw[hb]at h
   obtain⟨d,hd,h⟩:=Af (show ob (x.2.fit z s) (fun d=>some (Sum.inl d))=some o from h)
   simp at h;subst h
   simp[R8,Tree.val,Tree.run,sm]at k
   obtain⟨rfl,rfl⟩:=k
   exact⟨Ex.eq_of_beq hb,x.2,(X9 hd).symm⟩
def bod (g:Cfg) (np nt:Nat) (Λ:Fy) (body:Code) (sk:Sk) (z:Nat) (xs:List (Ex×Sk)) (d:sk.den):Option (sk.den⊕O0 xs):=
 pex g np nt Λ body (sk.mk' d) fun e s=>match e with
  | .normal=>ob (sk.fit z s) fun d'=>some (.inl d')
  |e=>ob (Agv z xs e s) fun o=>some (.inr o)
def lam (sk:Sk) (z:Nat) (xs:List (Ex×Sk)) (B:sk.den→Option (sk.den⊕O0 xs)) (st:St):Tree (Ex×St):=
 match sk.fit z st with
 |some d=>.ob (Ay B d) fun o=>R8 xs o
 |none=>.fail
theorem A9p {P:Program} {g:Cfg} (hC:CfgOk P g) {cx:Cx} {np nt:Nat} (hpin:cx.pin.length≤np) {Λ:Fy} {body:Code} (hL: ∀b,b∈Bx body→D6 P cx nt Λ b) {sk:Sk} {z:Nat} {xs:List (Ex×Sk)} {B:sk.den→Option (sk.den⊕O0 xs)}
  (hB: ∀d r,B d=some r→bod g np nt Λ body sk z xs d=some r) {d:sk.den} {o:O0 xs} (h:Iter B d o):
  ∀ {gh:Gh} {a:Act} {w:World},RM cx gh (sk.mk' d) w→Env nt cx gh (sk.mk' d) a→ ∀(e':Ex) (st':St),(R8 xs o).val=some (e',st')→ ∀(b:Frame) (k:List Item) (cs:List Frame),
   ∃ex a' w',(∃gh',RM cx gh' st' w'∧Env nt cx gh' st' a'∧ex=e'.out)∧Arrives P (lone (b.at a (.code body:: .inLoop body::k)) cs w) b k cs ex a' w':=by
 induction h with
 | @more d d' o h t ih=>
  intro gh a w hM hE e' st' hs b k cs
  have hw:=Rx hC hpin (Q:=fun ex a' w'=>ex= .normal∧ ∃gh',RM cx gh' (sk.mk' d') w'∧Env nt cx gh' (sk.mk' d') a') hM hE (hB _ _ h) hL (fun e gh' st' a' w' m en hr=>by
   cases e with
   |normal=>
    obtain⟨x,hx,hr⟩:=Af hr
    simp only[Option.some.injEq,Sum.inl.injEq]at hr
    subst hr
    refine⟨rfl,?_⟩
    rw[←X9 hx]
    exact P0 sk z _ _ _ _ _ _ m en
   |exit i=>obtain⟨x,hx,hr⟩:=Af hr;simp at hr
   |ret=>obtain⟨x,hx,hr⟩:=Af hr;simp at hr)
  obtain⟨ex,a1,w1,⟨rfl,gh1,m1,e1⟩,harr⟩:=hw b (.inLoop body::k) cs
  obtain⟨ex2,a2,w2,hq,harr2⟩:=ih m1 e1 e' st' hs b k cs
  exact⟨ex2,a2,w2,hq,.of_steps (Steps.trans harr (.one step_inLoop)) harr2⟩
 | @done d o h=>
  intro gh a w hM hE e' st' hs b k cs
  have fin: ∀ {e:Ex} {gh':Gh} {st1:St} {a':Act} {w':World},RM cx gh' st1 w'→Env nt cx gh' st1 a'→ob (Agv z xs e st1) (fun o=>some (Sum.inr (α:=sk.den) o))=some (.inr o)→e'=e∧ ∃gh2,RM cx gh2 st' w'∧Env nt cx gh2 st' a':=fun {e gh' st1 a' w'} m en hr=>by
   obtain⟨x,hx,hr⟩:=Af hr
   simp only[Option.some.injEq,Sum.inr.injEq]at hr
   subst hr
   obtain⟨he,kk,hk⟩:=Ab6 hx hs
   refine⟨he,?_⟩
   rw[hk]
   exact P0 kk z _ _ _ _ _ _ m en
  have hw:=Rx hC hpin (Q:=fun ex a' w'=>ex=e'.out∧e'≠ .normal∧ ∃gh',RM cx gh' st' w'∧Env nt cx gh' st' a') hM hE (hB _ _ h) hL (fun e gh' st1 a' w' m en hr=>by
   cases e with
   |normal=>obtain⟨x,hx,hr⟩:=Af hr;simp at hr
   |exit i=>obtain⟨rfl,h2⟩:=fin m en hr;exact⟨rfl,by simp,h2⟩
   |ret=>obtain⟨rfl,h2⟩:=fin m en hr;exact⟨rfl,by simp,h2⟩)
  obtain⟨ex,a1,w1,⟨rfl,hne,gh1,m1,e1⟩,harr⟩:=hw b (.inLoop body::k) cs
  refine⟨e'.out,a1,w1,⟨gh1,m1,e1,rfl⟩,?_⟩
  cases e' with
  |normal=>exact(hne rfl).elim
  |exit i=>exact .pass (x:=.inLoop body) rfl (fun _ _=>.inl (by simp[Ex.out])) harr
  |ret=>exact .pass (x:=.inLoop body) rfl (fun _ _=>.inl (by simp[Ex.out])) harr
theorem Fv {P:Program} {g:Cfg} (hC:CfgOk P g) {cx:Cx} {np nt:Nat} (hpin:cx.pin.length≤np) {Λ:Fy} {body:Code} (hL: ∀b,b∈Bx body→D6 P cx nt Λ b) {sk:Sk} {z:Nat} {xs:List (Ex×Sk)} {B:sk.den→Option (sk.den⊕O0 xs)}
  (hΛ:Λ (K6 body)=lam sk z xs B) (hB: ∀d,bod g np nt Λ body sk z xs d=B d):D6 P cx nt Λ body:=by
 intro st e st' gh a w hv hm he b k cs
 rw[hΛ]at hv
 unfold lam at hv
 split at hv
 ·rename_i d hd
  cases ho:Ay B d with
  |none=>rw[ho]at hv;cases hv
  |some o=>
   rw[ho]at hv
   have hs:(R8 xs o).val=some (e,st'):=hv
   obtain⟨gh1,m1,e1⟩:=P0 sk z cx gh st a w nt hm he
   rw[X9 hd]at m1 e1
   obtain⟨ex,a',w',hq,harr⟩:=A9p hC hpin hL (fun d r h=>(hB d).trans h) (R7 ho) m1 e1 e st' hs b k cs
   exact⟨ex,a',w',hq,.of_steps (.one step_loop) harr⟩
 ·cases hv
@[reducible] def Oz:List (Bool×List Sh)→Type
 |[]=>Unit
 |p::r=>dens p.2×Oz r
def sgs:(cs:List Sh)→dens cs→List Sg
 |[],_=>[]
 |s::r,d=>⟨s,d.1⟩::sgs r d.2
def rv (p:Bool×List Sh) (d:dens p.2):RV:=(p.1,sgs p.2 d)
def mkA:(ps:List (Bool×List Sh))→Oz ps→List RV
 |[],_=>[]
 |p::r,d=>rv p d.1::mkA r d.2
def As6 (s:Sh) (x:Sg):Option s.den:=if h:x.sh=s then some (h▸x.val)else none
def unS:(cs:List Sh)→List Sg→Option (dens cs)
 |[],[]=>some ()
 |s::r,x::xs=>ob (As6 s x) fun d=>ob (unS r xs) fun e=>some (d,e)
 |_,_=>none
def unA:(ps:List (Bool×List Sh))→List RV→Option (Oz ps)
 |[],[]=>some ()
 |p::r,x::xs=>chk (p.1==x.1) (ob (unS p.2 x.2) fun d=>ob (unA r xs) fun e=>some (d,e))
 |_,_=>none
theorem A6m {s:Sh} {x:Sg} {d:s.den} (h:As6 s x=some d):x=⟨s,d⟩:=by
 unfold As6 at h
 split at h
 ·rename_i e
  obtain⟨sh,v⟩:=x
  simp only at e
  subst e
  simp at h;subst h;rfl
 ·cases h
theorem Ay5: ∀ {cs:List Sh} {xs:List Sg} {d:dens cs},unS cs xs=some d→xs=sgs cs d
 |[],[],d,h=>rfl
 |s::r,x::xs,d,h=>by
  simp only[unS]at h
  obtain⟨v,hv,h⟩:=Af h
  obtain⟨e,he,h⟩:=Af h
  simp only[Option.some.injEq]at h
  subst h
  rw[A6m hv,Ay5 he];rfl
 |[],_::_,d,h=>by simp[unS]at h
 |_::_,[],d,h=>by simp[unS]at h
theorem Ay6: ∀ {ps:List (Bool×List Sh)} {xs:List RV} {d:Oz ps},unA ps xs=some d→xs=mkA ps d
 |[],[],d,h=>rfl
 |p::r,x::xs,d,h=>by
  simp only[unA]at h
  obtain⟨hb,h⟩:=A7 h
  obtain⟨v,hv,h⟩:=Af h
  obtain⟨e,he,h⟩:=Af h
  simp only[Option.some.injEq]at h
  subst h
  obtain⟨b,ys⟩:=x
  have hb:p.1=b:=by simpa using hb
  subst hb
  have h1:=Ay5 hv
  simp only at h1
  subst h1
  rw[Ay6 he];rfl
 |[],_::_,d,h=>by simp[unA]at h
 |_::_,[],d,h=>by simp[unA]at h
def Aw (ps:List (Bool×List Sh)) {R:Type} (V:Oz ps→Option R) (rvs:R→List RV×List RV):Ax:=fun as=>match unA ps as with
 |some d=>.ob (V d) fun r=>.leaf (rvs r)
 |none=>.fail
theorem Awi {ps:List (Bool×List Sh)} {R:Type} {V:Oz ps→Option R} {rvs:R→List RV×List RV} {as:List RV} {r:List RV×List RV} (h:(Aw ps V rvs as).val=some r): ∃d x,as=mkA ps d∧V d=some x∧rvs x=r:=by
 unfold Aw at h
 split at h
 ·rename_i d hd
  cases hv:V d with
  |none=>rw[hv]at h;cases h
  |some x=>rw[hv]at h;exact⟨d,x,Ay6 hd,hv,by simpa [Tree.val,Tree.run,ob] using h⟩
 ·cases h
theorem A9q {α ρ:Type} (t:Tree α) (k:α→Option ρ):t.run k=ob t.val k:=by
 unfold Tree.val
 rw[Oh];rfl
structure Fn (P:Program) (f:FuncId) (kd:Kind) (F:Ax):Prop where
 does:A31 P f kd F
 fn: ∃X,P.funcs[f]? =some X∧(X.name== "runtime.NumGoroutine")=false∧X.body.isSome=true
theorem Qa {P:Program} {g:Cfg} (hC:CfgOk P g) {np:Nat} {Λ:Fy} {f:FuncId} {fn:Func} {kd:Kind} (hf:P.funcs[f]? =some fn) (hn:(fn.name== "runtime.NumGoroutine")=false) (hb:fn.body.isSome=true)
  (hL: ∀cx b,cx.pin.length≤np→b∈Bx (fn.body.getD .skip)→D6 P cx fn.ntmps Λ b) {ps:List (Bool×List Sh)} {R:Type} {T:Oz ps→Tree R} {rvs:R→List RV×List RV}
  (h: ∀d,H9 g np Λ fn kd (mkA ps d)=(T d).run fun r=>some (rvs r)):Fn P f kd (Aw ps (fun d=>(T d).val) rvs):=
 ⟨A8b hC hf hL (fun as res hv=>by
  obtain⟨d,x,rfl,h1,h2⟩:=Awi hv
  rw[h d,A9q,h1]
  show some (rvs x)=some res
  rw[h2]),fn,hf,hn,hb⟩
abbrev Fns:=List (Nat×Kind×Ax)
def S8:Fns→Ctr
 |[],_,_=>.fail
 |(j,_,F)::r,f,vs=>cond (Nat.beq f j) (F vs) (S8 r f vs)
def P3:Fns→Nat→Kind
 |[],_=>.plain
 |(j,k,_)::r,f=>cond (Nat.beq f j) k (P3 r f)
def Lv (P:Program):Fns→Prop
 |[]=>True
 |(f,k,F)::r=>Fn P f k F∧Lv P r
theorem Aon {P:Program}: ∀ {l:Fns},Lv P l→ ∀f,A31 P f (P3 l f) (S8 l f)∧ ∀vs r,(S8 l f vs).val=some r→ ∃X,P.funcs[f]? =some X∧(X.name== "runtime.NumGoroutine")=false∧X.body.isSome=true
 |[],_,f=>⟨(fun as res vals w G h=>by cases (show(none:Option (List RV×List RV))=some res from h)),(fun vs r h=>by cases (show(none:Option (List RV×List RV))=some r from h))⟩
 |(j,k,F)::l,h,f=>by
  have ih:=Aon h.2 f
  cases hb:Nat.beq f j with
  |true=>
   have e:=Nat.eq_of_beq_eq_true hb
   subst e
   have hc:S8 ((f,k,F)::l) f=F:=funext fun vs=>by simp[S8]
   have hk:P3 ((f,k,F)::l) f=k:=by simp[P3]
   rw[hc,hk]
   exact⟨h.1.does,fun vs r hv=>h.1.fn⟩
  |false=>
   have hc:S8 ((j,k,F)::l) f=S8 l f:=funext fun vs=>by simp[S8,hb]
   have hk:P3 ((j,k,F)::l) f=P3 l f:=by simp[P3,hb]
   rw[hc,hk]
   exact ih
def Aop:List (Nat×Ty)→Nat→Option Ty
 |[],_=>none
 |(j,T)::r,t=>cond (Nat.beq t j) (some T) (Aop r t)
def A2e (P:Program) (l:List (Nat×Ty)):Bool:=l.all fun p=>A4h P p.1 p.2
theorem Ay7 {P:Program}: ∀ {l:List (Nat×Ty)},A2e P l=true→ ∀ {t T},Aop l t=some T→TyOk P t T
 |[],_,t,T,h=>by cases h
 |(j,X)::l,hb,t,T,h=>by
  simp only[A2e,List.all_cons,Bool.and_eq_true]at hb
  simp only[Aop]at h
  cases hj:Nat.beq t j with
  |true=>
   rw[hj]at h
   simp at h;subst h
   rw[Nat.eq_of_beq_eq_true hj]
   exact A9o hb.1
  |false=>
   rw[hj]at h
   exact Ay7 (l:=l) hb.2 h
theorem Gz {P:Program} {tys:List (Nat×Ty)} {l:Fns} {i b:Nat} (hm:P.follows .mixedOrders=true) (ht:A2e P tys=true) (hl:Lv P l):CfgOk P ⟨Aop tys,S8 l,P3 l,i,b⟩:=
 ⟨hm,fun t T h=>Ay7 ht h,fun f=>(Aon hl f).1,fun f vs r h=>(Aon hl f).2 vs r h⟩
end
end Go.Proofs.YtmhhajdeafijmaaGreat
namespace Go.Proofs.YtmhhajdeafijmaaGreat
open Go.RowKit
set_option linter.unusedVariables false
set_option linter.unusedSectionVars false
set_option linter.unusedSimpArgs false
noncomputable section

open Classical in
theorem A6n {G:A6} {F:Aa} {cs:List Sh} {l:List (dens cs)} {i:Nat} {v:Value} (h:Xy G F cs l i v):
  ∃(fs:Nat→Aa) (F':Aa),Xy G F' cs l (i+1) v∧F'.sub F∧(∀j,(fs j).sub F)∧(∀j j',j≠j'→(fs j).apart (fs j'))∧(∀j,(fs j).apart F')∧
   ∀(d:dens cs) j sg,l[i]? =some d→Do cs d j=some sg→D4 sg.sh=true→ ∃b n cap u,v= .slice (some ⟨b,0,none⟩) n cap∧G b (i*cs.length+j)=some u∧Bb (fs j) sg.sh sg.val u:=by
 obtain⟨b,h,c,h1,h2⟩:=h
 let F':Aa:=fun k=>if ∃i',i+1≤i'∧i'<l.length∧(h i' k).isSome=true then F k else none
 have hF':F'.sub F:=fun k o e=>by
  simp only[F']at e
  split at e
  ·exact e
  ·cases e
 have hbag:Xy G F' cs l (i+1) v:=by
  refine⟨b,h,c,fun i' d hi hd=>?_,fun i1 i2 hi hi'=>h2 i1 i2 (by omega) (by omega)⟩
  obtain⟨q1,q2,q3,q4⟩:=h1 i' d (by omega) hd
  refine⟨q1,q2,fun k o e=>?_,q4⟩
  have hlt:i'<l.length:=(List.getElem?_eq_some_iff.1 hd).1
  show(if ∃i',i+1≤i'∧i'<l.length∧(h i' k).isSome=true then F k else none)=some o
  rw[if_pos ⟨i',hi,hlt,by rw[e];rfl⟩]
  exact q3 k o e
 cases hd:l[i]? with
 |none=>
  exact⟨fun _=>Aa.emp,F',hbag,hF',fun _=>Aa.emp_sub _,fun _ _ _=>Aa.apart_emp _,fun _=>Aa.emp_apart _,fun d j sg hd'=>by cases hd'⟩
 |some d=>
  have hlt:i<l.length:=(List.getElem?_eq_some_iff.1 hd).1
  obtain⟨⟨n,cap,q1⟩,q2,q3,q4⟩:=h1 i d (Nat.le_refl _) hd
  obtain⟨fs,r1,r2,r3⟩:=Bs.split q2
  refine⟨fs,F',hbag,hF',fun j=>Aa.sub_trans (r2 j) q3,r3,fun j k=>?_,fun d' j sg hd' hc hs=>?_⟩
  ·cases e:fs j k with
   |none=>exact .inl rfl
   |some o=>
    right
    show(if ∃i',i+1≤i'∧i'<l.length∧(h i' k).isSome=true then F k else none)=none
    rw[if_neg]
    rintro⟨i',g1,g2,g3⟩
    rcases h2 i i' (Nat.le_refl _) (by omega) hlt g2 (by omega) k with e'|e'
    ·rw[r2 j k o e]at e';cases e'
    ·rw[e']at g3;cases g3
  ·simp only[Option.some.injEq]at hd'
   subst hd'
   obtain⟨u,e,ho⟩:=r1 j sg hc
   exact⟨b,n,cap,u,q1,q4 j u e,ho⟩
theorem Aut {cx:Cx} {w:World} {g:Gh} {st:St} {nt j k z:Nat} {a:Act} (hz: ∀t,t∈st.used→t<z) (hl: ∀e cs l t,st.get j= .v false [⟨.sl e cs,l,.own t⟩]→t∈st.live)
  (hM:RM cx g (L6 j k st) w) (hE:Env nt cx g (L6 j k st) a): ∃g',RM cx g' (Ard j k z st) w∧Env nt cx g' (Ard j k z st) a:=by
 unfold L6 at hM hE
 unfold Ard
 split
 ·rename_i e cs l t x tk hj hk
  rw[hj,hk]at hM hE
  simp only at hM hE
  have htl:t∈st.live:=hl e cs l t hj
  have hjs:look j (Gp j (.v false [⟨.sl e cs,l,.bag t (Int.toNat x)⟩]) st.env)= .v false [⟨.sl e cs,l,.bag t (Int.toNat x)⟩]:=(Gq j st.env).2 (by show st.get j≠ .any;rw[hj];exact fun h=>by cases h)
  have hvj:=hE.2.2.1 j
  rw[show St.get {st with env:=Gp j (.v false [⟨.sl e cs,l,.bag t (Int.toNat x)⟩]) st.env} j=_ from hjs]at hvj
  obtain⟨⟨v1,v2,v3⟩,_⟩:=hvj
  obtain⟨fs,F',s1,s2,s3,s4,s5,s6⟩:=A6n (show Xy g.G (g.F t) cs l (Int.toNat x) (a.tmps.getD j undef)from v3 htl)
  let m:=cs.length
  let nF:Nat→Aa:=fun u=>if u<z then g.F u else if u=z+m then F' else fs (u-z)
  let g':Gh:=⟨g.G,g.B,nF,g.V,g.S⟩
  have hne: ∀u,u∈st.live→u<z:=fun u hu=>hz u (hM.tok u hu).1
  have hmem: ∀u,u∈List.range' z (m+1)++st.live.erase t→(u∈st.live∧u≠t∧u<z∧nF u=g.F u)∨(z≤u∧u≤z+m∧(nF u).sub (g.F t)):=fun u hu=>by
   rcases List.mem_append.1 hu with h|h
   ·right
    have:=List.mem_range'_1.1 h
    refine⟨this.1,by omega,?_⟩
    simp only[nF]
    rw[if_neg (by omega)]
    split
    ·exact s2
    ·exact s3 _
   ·left
    have h1:=List.mem_of_mem_erase h
    have h2:=(hM.nodup.mem_erase_iff.1 h).1
    exact⟨h1,h2,hne u h1,by simp only[nF];rw[if_pos (hne u h1)]⟩
  let st1:St:={st with env:=Gp j (.v false [⟨.sl e cs,l,.bag t (Int.toNat x)⟩]) st.env}
  let st2:St:={st with env:=Gp j (.v false [⟨.sl e cs,l,.one z (Int.toNat x) (z+m)⟩]) st.env,live:=List.range' z (m+1)++st.live.erase t,used:=List.range' z (m+1)++st.used}
  have hX:Ext g st1 g' st2:=by
   refine⟨fun _ _ _ h=>h,fun _ _=>rfl,fun _ h=>h,fun u hu=>List.mem_append_right _ hu,fun u hu hu1=>?_⟩
   rcases hmem u hu with⟨h1,h2,h3,h4⟩|⟨h1,_,_⟩
   ·exact⟨h1,h4,rfl,rfl,fun _ _ _=>rfl⟩
   ·have:=hz u hu1;omega
  refine⟨g',⟨hM.moved,hM.lies,hM.g0,hM.old,?_,hM.inj,hM.boxG,?_,?_,?_,?_,hM.new⟩,hE.1,hE.2.1,fun i=>?_,hE.2.2.2⟩
  ·intro b xs hb
   obtain⟨vs,ty,h1,h2,h3⟩:=hM.box b xs hb
   exact⟨vs,ty,h1,h2,h3.ext hX⟩
  ·intro u hu
   rcases hmem u hu with⟨h1,h2,h3,h4⟩|⟨h1,h2,h3⟩
   ·obtain⟨q1,q2,q3⟩:=hM.tok u h1
    exact⟨List.mem_append_right _ q1,by show Bi (nF u) w;rw[h4];exact q2,by show ∀b o,nF u b=some o→Fb cx b;rw[h4];exact q3⟩
   ·obtain⟨q1,q2,q3⟩:=hM.tok t htl
    exact⟨List.mem_append_left _ (List.mem_range'_1.2 ⟨h1,by omega⟩),fun b o hb=>q2 b o (h3 b o hb),fun b o hb=>q3 b o (h3 b o hb)⟩
  ·intro u u' hu hu' hne'
   show(nF u).apart (nF u')
   rcases hmem u hu with⟨h1,h2,h3,h4⟩|⟨h1,h2,h3⟩
   ·rcases hmem u' hu' with⟨k1,k2,k3,k4⟩|⟨k1,k2,k3⟩
    ·rw[h4,k4];exact hM.apart u u' h1 k1 hne'
    ·rw[h4];exact Aa.apart_sub (hM.apart u t h1 htl h2) (Aa.sub_refl _) k3
   ·rcases hmem u' hu' with⟨k1,k2,k3,k4⟩|⟨k1,k2,k3⟩
    ·rw[k4];exact Aa.apart_symm (Aa.apart_sub (hM.apart u' t k1 htl k2) (Aa.sub_refl _) h3)
    ·have eF: ∀y,z≤y→nF y=if y=z+m then F' else fs (y-z):=fun y hy=>by simp only[nF];rw[if_neg (by omega)]
     rw[eF u h1,eF u' k1]
     by_cases e1:u=z+m
     ·rw[if_pos e1]
      by_cases e2:u'=z+m
      ·omega
      ·rw[if_neg e2];exact Aa.apart_symm (s5 _)
     ·rw[if_neg e1]
      by_cases e2:u'=z+m
      ·rw[if_pos e2];exact s5 _
      ·rw[if_neg e2];exact s4 _ _ (by omega)
  ·intro u b hu hb
   show nF u (g.B b)=none
   rcases hmem u hu with⟨h1,h2,h3,h4⟩|⟨h1,h2,h3⟩
   ·rw[h4];exact hM.tokBox u b h1 hb
   ·have:=hM.tokBox t b htl hb
    cases e:nF u (g.B b)with
    |none=>rfl
    |some o=>rw[h3 _ _ e]at this;cases this
  ·refine List.nodup_append.2 ⟨List.nodup_range',hM.nodup.erase t,fun u hu u' hu' he=>?_⟩
   subst he
   have h1:=(List.mem_range'_1.1 hu).1
   have h2:=hne u (List.mem_of_mem_erase hu')
   omega
  ·show VR cx g' st2 (look i (Gp j _ st.env)) _
   by_cases hi:i=j
   ·subst hi
    rw[(Gq i st.env).2 (by show st.get i≠ .any;rw[hj];exact fun h=>by cases h)]
    refine⟨⟨v1,List.mem_append_left _ (List.mem_range'_1.2 ⟨by omega,by omega⟩),fun _=>?_,fun d j' sg hd hc hs=>⟨List.mem_append_left _ ?_,fun _=>?_⟩⟩,trivial⟩
    ·show Xy g.G (nF (z+m)) cs l (Int.toNat x+1) _
     have eF:nF (z+m)=F':=by simp only[nF];rw[if_neg (by omega)];simp
     rw[eF]
     exact s1
    ·have hj':j'<m:=by
      have: ∀(cs:List Sh) (d:dens cs) (m:Nat) (s:Sg),Do cs d m=some s→m<cs.length:=by
       intro cs
       induction cs with
       |nil=>intro d m s h;simp[Do]at h
       |cons x r ih=>intro d m s h;cases m with
        |zero=>simp
        |succ m=>simp only[Do]at h;have:=ih _ _ _ h;simp;omega
      exact this cs d j' sg hc
     exact List.mem_range'_1.2 ⟨by omega,by omega⟩
    ·have hj':j'<m:=by
      have: ∀(cs:List Sh) (d:dens cs) (m:Nat) (s:Sg),Do cs d m=some s→m<cs.length:=by
       intro cs
       induction cs with
       |nil=>intro d m s h;simp[Do]at h
       |cons x r ih=>intro d m s h;cases m with
        |zero=>simp
        |succ m=>simp only[Do]at h;have:=ih _ _ _ h;simp;omega
      exact this cs d j' sg hc
     obtain⟨b,n,cap,u,r1,r2,r3⟩:=s6 d j' sg hd hc hs
     refine⟨b,n,cap,u,r1,r2,?_⟩
     show Bb (nF (z+j')) _ _ _
     simp only[nF]
     rw[if_neg (by omega),if_neg (by omega),Nat.add_sub_cancel_left]
     exact r3
   ·have hv:=hE.2.2.1 i
    rw[(Gq i st.env).1 hi]
    have h2:St.get {st with env:=Gp j (.v false [⟨.sl e cs,l,.bag t (Int.toNat x)⟩]) st.env} i=look i st.env:=(Gq i st.env).1 hi
    rw[h2]at hv
    exact hv.ext hX
 ·rename_i hno
  split at hM
  ·rename_i h1 h2;exact(hno _ _ _ _ _ _ h1 h2).elim
  ·split at hE
   ·rename_i h1 h2;exact(hno _ _ _ _ _ _ h1 h2).elim
   ·exact⟨g,hM,hE⟩
def A63 (g:Cfg) (np nt:Nat) (Λ:Fy) (body:Code) (sk:Sk) (z:Nat) (xs:List (Ex×Sk)) (j k zs:Nat) (d:sk.den):Option (sk.den⊕O0 xs):=
 pex g np nt Λ body (Ard j k zs (sk.mk' d)) fun e s=>match e with
  | .normal=>chk (Ay2 j k (As5 sk z s)) (ob (sk.un (Akk j k (As5 sk z s))) fun d'=>some (.inl d'))
  |e=>ob (Agv z xs e s) fun o=>some (.inr o)
def Are (sk:Sk) (j zs:Nat):Bool:=
 sk.live.all (fun u=>Nat.blt u zs) && sk.env.all fun p=>match p with
  |(i,.v false [(_,.own t)])=> !Nat.beq i j || sk.live.contains t
  |_=>true
theorem Ak8 {R:Type} {j:Nat} {e:Nat} {cs:List Sh} {l:List (dens cs)} {t:Nat}: ∀ {env:List (Nat×PSk)} {d:Akj env R},look j (mkE env d).1= .v false [⟨.sl e cs,l,.own t⟩]→ ∃s,(j,PSk.v false [(s,.own t)])∈env
 |[],d,h=>by simp[mkE,look]at h
 |(i,.v a xs)::r,d,h=>by
  simp only[mkE]at h
  rw[C0]at h
  split at h
  ·rename_i e'
   subst e'
   simp only[PV.v.injEq]at h
   obtain⟨rfl,h⟩:=h
   cases xs with
   |nil=>simp[mkC]at h
   |cons y ys=>
    cases ys with
    |nil=>
     simp only[mkC,List.cons.injEq]at h
     obtain⟨s,tk⟩:=y
     have:tk= .own t:=by
      have:=congrArg Cl.tok h.1
      exact this
     subst this
     exact⟨s,by simp⟩
    |cons _ _=>simp[mkC]at h
  ·obtain⟨s,hs⟩:=Ak8 h
   exact⟨s,List.mem_cons_of_mem _ hs⟩
 |(i,.any)::r,d,h=>by
  simp only[mkE]at h
  rw[C0]at h
  split at h
  ·cases h
  ·obtain⟨s,hs⟩:=Ak8 h
   exact⟨s,List.mem_cons_of_mem _ hs⟩
 |(i,.box _ _)::r,d,h=>by
  simp only[mkE]at h
  rw[C0]at h
  split at h
  ·cases h
  ·obtain⟨s,hs⟩:=Ak8 h
   exact⟨s,List.mem_cons_of_mem _ hs⟩
theorem Ak9 {sk:Sk} {j k zs:Nat} (h:Are sk j zs=true) (d:sk.den):(∀t,t∈(sk.mk' d).used→t<zs)∧ ∀e cs l t,(sk.mk' d).get j= .v false [⟨.sl e cs,l,.own t⟩]→t∈(sk.mk' d).live:=by
 unfold Are at h
 simp only[Bool.and_eq_true,List.all_eq_true]at h
 refine⟨fun t ht=>Nat.le_of_ble_eq_true (h.1 t ht),fun e cs l t hg=>?_⟩
 obtain⟨s,hs⟩:=Ak8 (show look j (mkE sk.env d).1=_ from hg)
 have:=h.2 _ hs
 simp only[Nat.beq_refl,Bool.not_true,Bool.false_or]at this
 show t∈sk.live
 simpa using this
theorem A8h {P:Program} {g:Cfg} (hC:CfgOk P g) {cx:Cx} {np nt:Nat} (hpin:cx.pin.length≤np) {Λ:Fy} {body:Code} (hL: ∀b,b∈Bx body→D6 P cx nt Λ b) {sk:Sk} {z:Nat} {xs:List (Ex×Sk)} {B:sk.den→Option (sk.den⊕O0 xs)} {j k zs:Nat} (hop:Are sk j zs=true)
  (hB: ∀d r,B d=some r→A63 g np nt Λ body sk z xs j k zs d=some r) {d:sk.den} {o:O0 xs} (h:Iter B d o):
  ∀ {gh:Gh} {a:Act} {w:World},RM cx gh (L6 j k (sk.mk' d)) w→Env nt cx gh (L6 j k (sk.mk' d)) a→ ∀(e':Ex) (st':St),(R8 xs o).val=some (e',st')→ ∀(b:Frame) (kk:List Item) (cs:List Frame),
   ∃ex a' w',(∃gh',RM cx gh' st' w'∧Env nt cx gh' st' a'∧ex=e'.out)∧Arrives P (lone (b.at a (.code body:: .inLoop body::kk)) cs w) b kk cs ex a' w':=by
 induction h with
 | @more d d' o h t ih=>
  intro gh a w hM0 hE0 e' st' hs b kk cs
  obtain⟨gh,hM,hE⟩:=Aut (z:=zs) (Ak9 (k:=k) hop d).1 (Ak9 (k:=k) hop d).2 hM0 hE0
  have hw:=Rx hC hpin (Q:=fun ex a' w'=>ex= .normal∧ ∃gh',RM cx gh' (L6 j k (sk.mk' d')) w'∧Env nt cx gh' (L6 j k (sk.mk' d')) a') hM hE (hB _ _ h) hL (fun e gh' st' a' w' m en hr=>by
   cases e with
   |normal=>
    obtain⟨hn,hr⟩:=A7 hr
    obtain⟨x,hx,hr⟩:=Af hr
    simp only[Option.some.injEq,Sum.inl.injEq]at hr
    subst hr
    refine⟨rfl,?_⟩
    obtain⟨gh2,m2,e2⟩:=P0 sk z _ _ _ _ _ _ m en
    rw[←A17 hx]
    exact⟨gh2,A6i hn m2 e2⟩
   |exit i=>obtain⟨x,hx,hr⟩:=Af hr;simp at hr
   |ret=>obtain⟨x,hx,hr⟩:=Af hr;simp at hr)
  obtain⟨ex,a1,w1,⟨rfl,gh1,m1,e1⟩,harr⟩:=hw b (.inLoop body::kk) cs
  obtain⟨ex2,a2,w2,hq,harr2⟩:=ih m1 e1 e' st' hs b kk cs
  exact⟨ex2,a2,w2,hq,.of_steps (Steps.trans harr (.one step_inLoop)) harr2⟩
 | @done d o h=>
  intro gh a w hM0 hE0 e' st' hs b kk cs
  obtain⟨gh,hM,hE⟩:=Aut (z:=zs) (Ak9 (k:=k) hop d).1 (Ak9 (k:=k) hop d).2 hM0 hE0
  have fin: ∀ {e:Ex} {gh':Gh} {st1:St} {a':Act} {w':World},RM cx gh' st1 w'→Env nt cx gh' st1 a'→ob (Agv z xs e st1) (fun o=>some (Sum.inr (α:=sk.den) o))=some (.inr o)→e'=e∧ ∃gh2,RM cx gh2 st' w'∧Env nt cx gh2 st' a':=fun {e gh' st1 a' w'} m en hr=>by
   obtain⟨x,hx,hr⟩:=Af hr
   simp only[Option.some.injEq,Sum.inr.injEq]at hr
   subst hr
   obtain⟨he,kk,hk⟩:=Ab6 hx hs
   refine⟨he,?_⟩
   rw[hk]
   exact P0 kk z _ _ _ _ _ _ m en
  have hw:=Rx hC hpin (Q:=fun ex a' w'=>ex=e'.out∧e'≠ .normal∧ ∃gh',RM cx gh' st' w'∧Env nt cx gh' st' a') hM hE (hB _ _ h) hL (fun e gh' st1 a' w' m en hr=>by
   cases e with
   |normal=>obtain⟨hn,hr⟩:=A7 hr;obtain⟨x,hx,hr⟩:=Af hr;simp at hr
   |exit i=>obtain⟨rfl,h2⟩:=fin m en hr;exact⟨rfl,by simp,h2⟩
   |ret=>obtain⟨rfl,h2⟩:=fin m en hr;exact⟨rfl,by simp,h2⟩)
  obtain⟨ex,a1,w1,⟨rfl,hne,gh1,m1,e1⟩,harr⟩:=hw b (.inLoop body::kk) cs
  refine⟨e'.out,a1,w1,⟨gh1,m1,e1,rfl⟩,?_⟩
  cases e' with
  |normal=>exact(hne rfl).elim
  |exit i=>exact .pass (x:=.inLoop body) rfl (fun _ _=>.inl (by simp[Ex.out])) harr
  |ret=>exact .pass (x:=.inLoop body) rfl (fun _ _=>.inl (by simp[Ex.out])) harr
theorem A62 {P:Program} {g:Cfg} (hC:CfgOk P g) {cx:Cx} {np nt:Nat} (hpin:cx.pin.length≤np) {Λ:Fy} {body:Code} (hL: ∀b,b∈Bx body→D6 P cx nt Λ b) {sk:Sk} {z:Nat} {xs:List (Ex×Sk)} {B:sk.den→Option (sk.den⊕O0 xs)} (j k zs:Nat) (hop:Are sk j zs=true)
  (hΛ:Λ (K6 body)=lam sk z xs B) (hB: ∀d,A63 g np nt Λ body sk z xs j k zs d=B d):D6 P cx nt Λ body:=by
 intro st e st' gh a w hv hm he b kk cs
 rw[hΛ]at hv
 unfold lam at hv
 split at hv
 ·rename_i d hd
  cases ho:Ay B d with
  |none=>rw[ho]at hv;cases hv
  |some o=>
   rw[ho]at hv
   have hs:(R8 xs o).val=some (e,st'):=hv
   obtain⟨gh1,m1,e1⟩:=P0 sk z cx gh st a w nt hm he
   rw[X9 hd]at m1 e1
   obtain⟨m2,e2⟩:=A8d (j:=j) (k:=k) m1 e1
   obtain⟨ex,a',w',hq,harr⟩:=A8h hC hpin hL hop (fun d r h=>(hB d).trans h) (R7 ho) m2 e2 e st' hs b kk cs
   exact⟨ex,a',w',hq,.of_steps (.one step_loop) harr⟩
 ·cases hv
end
end Go.Proofs.YtmhhajdeafijmaaGreat
namespace Go.Proofs.YtmhhajdeafijmaaGreat
open Go.RowKit
set_option linter.unusedVariables false
noncomputable section
def Cy (l:List Nat):ByteArray:=⟨(l.map UInt8.ofNat).toArray⟩
def Aoo:Code→List Code
 | .seq a b=>Aoo a++Aoo b
 | .cond _ a b=>Aoo a++Aoo b
 | .block _ a=>Aoo a
 | .loop a=>a::Aoo a
 |_=>[]
def Bc (fn:Func) (i:Nat):Code:=(Aoo (fn.body.getD .skip)).getD i .skip
def Bav {α:Type} (p:α→Prop):List α→Prop
 |[]=>True
 |a::r=>p a∧Bav p r
theorem Dt {α:Type} {p:α→Prop} {l l':List α} (e:l=l') (h:Bav p l'): ∀b,b∈l→p b:=by
 subst e
 induction l with
 |nil=>intro b hb;cases hb
 |cons a r ih=>
  intro b hb
  rcases List.mem_cons.1 hb with rfl|hb
  ·exact h.1
  ·exact ih h.2 b hb
end
end Go.Proofs.YtmhhajdeafijmaaGreat
namespace Go.Proofs.YtmhhajdeafijmaaGreat
open Go.ChangeShapes Go.WideShapes Go.ChangeAt Go.RowKit
set_option linter.unusedVariables false
noncomputable section

def RcD (G:A6):(cs:List Sh)→dens cs→List Value→Prop
 |[],_,vs=>vs=[]
 |s::r,d,vs=>∃v t,vs=v::t∧RdD G s d.1 v∧RcD G r d.2 t
theorem RcD.len {G:A6}: ∀ {cs:List Sh} {d:dens cs} {vs:List Value},RcD G cs d vs→vs.length=cs.length
 |[],_,_,h=>by simp only[RcD]at h;simp[h]
 |s::r,d,vs,h=>by
  simp only[RcD]at h
  obtain⟨v,t,rfl,_,h2⟩:=h
  simp[RcD.len h2]
theorem RcD.app {G:A6}: ∀ {a b:List Sh} {d:dens a} {e:dens b} {xs ys:List Value},RcD G a d xs→RcD G b e ys→ ∃f:dens (a++b),RcD G (a++b) f (xs++ys)
 |[],b,d,e,xs,ys,h,k=>by
  simp only[RcD]at h
  subst h
  exact⟨e,k⟩
 |s::r,b,d,e,xs,ys,h,k=>by
  simp only[RcD]at h
  obtain⟨v,t,rfl,h1,h2⟩:=h
  obtain⟨f,hf⟩:=RcD.app h2 k
  exact⟨((d.1,f):s.den×dens (r++b)),by simp only[List.cons_append,RcD];exact⟨v,_,rfl,h1,hf⟩⟩
theorem RcD.at {G:A6}: ∀ {cs:List Sh} {d:dens cs} {vs:List Value} {b o:Nat},RcD G cs d vs→(∀(j:Nat) (v:Value),vs[j]? =some v→G b (o+j)=some v)→Dp G cs d b o
 |[],_,_,_,_,_,_=>by simp only[Dp]
 |s::r,d,vs,b,o,h,k=>by
  simp only[RcD]at h
  obtain⟨v,t,rfl,h1,h2⟩:=h
  simp only[Dp]
  refine⟨⟨v,by simpa using k 0 v rfl,h1⟩,RcD.at h2 (fun j x hj=>?_)⟩
  have:=k (j+1) x (by simpa using hj)
  rw[show o+1+j=o+(j+1) by omega];exact this
theorem RcD.rvs {G:A6}: ∀ {cs:List Sh} {d:dens cs} {vs:List Value},RcD G cs d vs→RVs G (sgs cs d) vs
 |[],_,_,h=>by simp only[RcD]at h;subst h;trivial
 |s::r,d,vs,h=>by
  simp only[RcD]at h
  obtain⟨v,t,rfl,h1,h2⟩:=h
  exact⟨h1,RcD.rvs h2⟩
def OpT (P:Program) (t:TypeId) (cs:List Sh):Prop:=
 ∀(H:Type) (enc:TypeId×Value→H) (w:World) (base:Nat) (sp:Nat→Bool) (held:Bool) (fuel:Nat) (vs:List Value) (x:DataW H×List MemPlace),
  DataW.trod enc P w base sp held fuel t vs=some x→ ∃d:dens cs,RcD (C4 (Ow w)) cs d vs
theorem A9r {P:Program} {t:TypeId} {k:IntKind} (ht:P.underlying t=some (.int k)):OpT P t [.int k]:=by
 intro H enc w base sp held fuel vs x h
 obtain⟨n,h1,_,h2⟩:=DataW.trod_int ht h
 exact⟨((n,()):Int×Unit),by simp only[RcD,RdD];exact⟨_,_,h1,⟨rfl,h2⟩,rfl⟩⟩
theorem A8i {P:Program} {t:TypeId} (ht:P.underlying t=some .bool):OpT P t [.bool]:=by
 intro H enc w base sp held fuel vs x h
 obtain⟨n,h1,_⟩:=DataW.trod_bool ht h
 exact⟨((n,()):Bool×Unit),by simp only[RcD,RdD];exact⟨_,_,h1,rfl,rfl⟩⟩
theorem A9s {P:Program} {t:TypeId} (ht:P.underlying t=some .string):OpT P t [.str]:=by
 intro H enc w base sp held fuel vs x h
 obtain⟨n,h1,_⟩:=DataW.trod_string ht h
 exact⟨((n,()):ByteArray×Unit),by simp only[RcD,RdD];exact⟨_,_,h1,rfl,rfl⟩⟩
theorem A6o {P:Program} {t e:TypeId} {cs:List Sh} (ht:P.underlying t=some (.slice e)) (hc:P.cellsOf e=cs.length) (h0:0<cs.length) (he:OpT P e cs):OpT P t [.sl e cs]:=by
 intro H enc w base sp held fuel vs x h
 have he':A3u P e (fun f vs (d:dens cs)=>RcD (C4 f) cs d vs):=he
 obtain⟨l,p,c,rfl,css,⟨a,cap,e1,h1,h2,h3⟩,hl,hel⟩:=A0p ht hc h0 he' H enc w base sp held fuel vs x h
 cases e1
 refine⟨((l,()):List (dens cs)×Unit),?_⟩
 simp only[RcD,RdD]
 have hlen: ∀c∈css,c.length=cs.length:=fun c hc=>by
  obtain⟨i,hi⟩:=List.getElem?_of_mem hc
  have hlt:i<l.length:=by rw[←hl];exact(List.getElem?_eq_some_iff.1 hi).1
  exact(hel i c _ hi (List.getElem?_eq_getElem hlt)).1
 refine⟨_,_,rfl,⟨p,c,rfl,h1,h2,fun ha=>by subst ha;exact h3.1,fun i d hd=>?_⟩,rfl⟩
 have hi:i<css.length:=by rw[hl];exact(List.getElem?_eq_some_iff.1 hd).1
 have hci:css[i]? =some css[i]:=List.getElem?_eq_getElem hi
 obtain⟨k1,k2⟩:=hel i _ d hci hd
 cases p with
 |none=>
  obtain⟨_,hn⟩:=h3
  have hm:css[i]∈css:=List.getElem_mem hi
  have:css[i]=[]:=by
   have:=List.flatten_eq_nil_iff.1 hn _ hm
   exact this
  rw[this]at k1
  simp at k1;omega
 |some ad=>
  have hcell: ∀(j:Nat) (v:Value),css[i][j]? =some v→ad.spot=none∧C4 (Ow w) ad.block (ad.off+i*cs.length+j)=some v:=fun j v hv=>by
   have hj:j<cs.length:=by rw[←k1];exact(List.getElem?_eq_some_iff.1 hv).1
   have hg:=Fa hlen hci hj
   have:=h3 (i*cs.length+j) v (hg.trans hv)
   exact⟨this.1,by unfold C4;rw[Nat.add_assoc];exact this.2⟩
  have hs:=(hcell 0 _ (List.getElem?_eq_getElem (by rw[k1];exact h0))).1
  refine⟨ad.block,ad.off,?_,RcD.at k2 (fun j v hv=>(hcell j v hv).2)⟩
  cases ad
  simp only at hs
  subst hs;rfl
def Ay8 (P:Program) (f:TypeId→Option (List Sh)):List Field→Nat→Option (List Sh)
 |[],_=>some []
 |fd::r,off=>if fd.offset=off then match f fd.type with
  |some cs=>if P.cellsOf fd.type=cs.length then(match Ay8 P f r (off+cs.length)with|some ds=>some (cs++ds)|none=>none)else none
  |none=>none else none
def As7 (P:Program):Nat→TypeId→Option (List Sh)
 |0,_=>none
 |n+1,t=>match P.underlying t with
  |some (.int k)=>some [.int k]
  |some .bool=>some [.bool]
  |some .string=>some [.str]
  |some (.slice e)=>match As7 P n e with
   |some cs=>if P.cellsOf e=cs.length∧0<cs.length then some [.sl e cs]else none
   |none=>none
  |some (.struct fs)=>match Ay8 P (As7 P n) fs.toList 0 with
   |some cs=>if P.cellsOf t=cs.length then some cs else none
   |none=>none
  |_=>none
theorem A2a {P:Program} {f:TypeId→Option (List Sh)} (hf: ∀t cs,f t=some cs→OpT P t cs) {H:Type} {enc:TypeId×Value→H} {w:World} {base:Nat} {sp:Nat→Bool} {held:Bool} {n:Nat} {vs:List Value}:
  ∀ {fs:List Field} {off:Nat} {cs:List Sh},Ay8 P f fs off=some cs→off+cs.length≤vs.length→(∀fd,fd∈fs→ ∃x,DataW.trod enc P w base sp held n fd.type ((vs.drop fd.offset).take (P.cellsOf fd.type))=some x)→
   ∃d:dens cs,RcD (C4 (Ow w)) cs d ((vs.drop off).take cs.length)
 |[],off,cs,h,hl,ht=>by
  simp only[Ay8]at h
  cases h
  exact⟨(),by simp[RcD]⟩
 |fd::r,off,cs,h,hl,ht=>by
  simp only[Ay8]at h
  split at h
  ·rename_i ho
   split at h
   ·rename_i c1 hc1
    split at h
    ·rename_i hcell
     split at h
     ·rename_i ds hds
      cases h
      simp only[List.length_append]at hl ⊢
      obtain⟨x,hx⟩:=ht fd (by simp)
      rw[ho,hcell]at hx
      obtain⟨d1,r1⟩:=hf _ _ hc1 _ _ _ _ _ _ _ _ _ hx
      obtain⟨d2,r2⟩:=A2a hf hds (by omega) (fun fd' h'=>ht fd' (by simp[h']))
      obtain⟨d,rd⟩:=RcD.app r1 r2
      refine⟨d,?_⟩
      rw[List.take_add,List.drop_drop]
      exact rd
     ·cases h
    ·cases h
   ·cases h
  ·cases h
theorem As8 {P:Program}: ∀ {n:Nat} {t:TypeId} {cs:List Sh},As7 P n t=some cs→OpT P t cs
 |0,t,cs,h=>by cases h
 |n+1,t,cs,h=>by
  simp only[As7]at h
  split at h
  ·rename_i k hk;cases h;exact A9r hk
  ·rename_i hk;cases h;exact A8i hk
  ·rename_i hk;cases h;exact A9s hk
  ·rename_i e hk
   split at h
   ·rename_i c hc
    split at h
    ·rename_i hh;cases h;exact A6o hk hh.1 hh.2 (As8 hc)
    ·cases h
   ·cases h
  ·rename_i fs hk
   split at h
   ·rename_i c hc
    split at h
    ·rename_i hh
     cases h
     intro H enc w base sp held fuel vs x hx
     obtain⟨xs,m,_,_,hl,hlen,hf⟩:=DataW.trod_struct hk hx
     have hle:0+cs.length≤vs.length:=by omega
     obtain⟨d,hd⟩:=A2a (fun t cs h=>As8 h) (enc:=enc) (w:=w) (base:=base) (sp:=sp) (held:=held) (n:=m) (vs:=vs) hc hle (fun fd hfd=>by
      obtain⟨i,hi⟩:=List.getElem?_of_mem hfd
      have hi':fs[i]? =some fd:=by simpa using hi
      have h2:=hf i fd hi'
      have hlt:i<xs.length:=by rw[hlen];exact(Array.getElem?_eq_some_iff.1 hi').1
      rw[List.getElem?_eq_getElem hlt]at h2
      exact⟨_,h2⟩)
     refine⟨d,?_⟩
     have:(vs.drop 0).take cs.length=vs:=by
      have hle2:vs.length≤cs.length:=by omega
      rw[List.drop_zero,List.take_of_length_le hle2]
     rw[this]at hd
     exact hd
    ·cases h
   ·cases h
  ·cases h
def Baw (P:Program) (t:TypeId) (p:Bool×List Sh):Bool:=
 (match As7 P 12 t with|some cs=>Sh.beqs cs p.2|none=>false) && (match P.underlying t with
  |some (.struct _)=>p.1
  |some (.slice _)=> !p.1
  |some (.int _)=> !p.1
  |some .bool=> !p.1
  |_=>false)
theorem Bae {P:Program} {t:TypeId} {p:Bool×List Sh} (hb:Baw P t p=true) {H:Type} {enc:TypeId×Value→H} {w:World} {base b0:Nat} {r:Reach} {sp:Nat→Bool} {held:Bool} {v:Value} {dd:DataW H} {pl:List MemPlace}
  (hval:Value.okWide P w r b0 t v) (ht:DataW.Trod enc P w base sp held t v dd pl): ∃d:dens p.2,RVv (C4 (Ow w)) (rv p d) v:=by
 unfold Baw at hb
 rw[Bool.and_eq_true]at hb
 obtain⟨h1,h2⟩:=hb
 cases hs:As7 P 12 t with
 |none=>rw[hs]at h1;cases h1
 |some cs=>
  rw[hs]at h1
  have e:=Sh.eq_of_beqs _ _ h1
  subst e
  obtain⟨fu,hf⟩:=ht
  obtain⟨d,hd⟩:=As8 hs _ _ _ _ _ _ _ _ _ hf
  refine⟨d,?_⟩
  have one:v.cells.toList=[v]→p.1=false→RVv (C4 (Ow w)) (rv p d) v:=fun hc hp=>by
   unfold RVv rv
   rw[hp]
   rw[hc]at hd
   exact hd.rvs
  split at h2
  ·rename_i fs hk
   obtain⟨c,rfl,_⟩:=okWide_struct hk hval
   unfold RVv rv
   rw[h2]
   exact⟨c.toList,by simp,hd.rvs⟩
  ·rename_i e hk
   obtain⟨z,len,cap,rfl⟩:=okWide_slice hk hval
   exact one rfl (by simpa using h2)
  ·rename_i k hk
   obtain⟨n,rfl⟩:=okWide_int hk hval
   exact one rfl (by simpa using h2)
  ·rename_i hk
   obtain⟨n,rfl⟩:=okWide_bool hk hval
   exact one rfl (by simpa using h2)
  ·cases h2
theorem A2b: ∀(cs:List Sh) (d:dens cs),unS cs (sgs cs d)=some d
 |[],_=>rfl
 |s::r,d=>by
  have h1:As6 s ⟨s,d.1⟩=some d.1:=by unfold As6;rw[dif_pos rfl]
  have h2:=A2b r d.2
  show ob (As6 s ⟨s,d.1⟩) (fun x=>ob (unS r (sgs r d.2)) fun e=>some (x,e))=some d
  rw[h1,h2];rfl
theorem As9: ∀(ps:List (Bool×List Sh)) (d:Oz ps),unA ps (mkA ps d)=some d
 |[],_=>rfl
 |p::r,d=>by
  show chk (p.1==p.1) (ob (unS p.2 (sgs p.2 d.1)) fun x=>ob (unA r (mkA r d.2)) fun e=>some (x,e))=some d
  rw[A2b,As9 r d.2]
  simp[chk,ob]
mutual
def wfD:(s:Sh)→s.den→Prop
 | .int k,n=>(Lit.int k n).wf=true
 | .sl _ cs,l=>l.length≤maxLen∧ ∀(i:Nat) (d:dens cs),l[i]? =some d→Xu cs d
 |_,_=>True
def Xu:(cs:List Sh)→dens cs→Prop
 |[],_=>True
 |s::r,d=>wfD s d.1∧Xu r d.2
end
mutual
theorem RdD.wfD {G:A6}: ∀(s:Sh) (d:s.den) (v:Value),RdD G s d v→wfD s d
 | .int k,n,v,h=>by simp only[RdD]at h;simp only[YtmhhajdeafijmaaGreat.wfD];exact h.2
 | .bool,_,_,_=>by simp only[YtmhhajdeafijmaaGreat.wfD]
 | .str,_,_,_=>by simp only[YtmhhajdeafijmaaGreat.wfD]
 | .junk,_,_,_=>by simp only[YtmhhajdeafijmaaGreat.wfD]
 | .sl e cs,l,v,h=>by
  simp only[RdD]at h
  simp only[YtmhhajdeafijmaaGreat.wfD]
  obtain⟨a,cap,_,hc1,hc2,_,h4⟩:=h
  refine⟨Nat.le_trans hc1 hc2,fun i d hd=>?_⟩
  obtain⟨b,o,_,h5⟩:=h4 i d hd
  exact Dp.wfD cs d b _ h5
theorem Dp.wfD {G:A6}: ∀(cs:List Sh) (d:dens cs) (b o:Nat),Dp G cs d b o→Xu cs d
 |[],_,_,_,_=>by simp only[Xu]
 |s::r,d,b,o,h=>by
  simp only[Dp]at h
  obtain⟨⟨v,_,h2⟩,h3⟩:=h
  simp only[Xu]
  exact⟨RdD.wfD s d.1 v h2,Dp.wfD r d.2 b _ h3⟩
end
def WfA:(ps:List (Bool×List Sh))→Oz ps→Prop
 |[],_=>True
 |p::r,d=>Xu p.2 d.1∧WfA r d.2
theorem RVs.wf {G:A6}: ∀ {cs:List Sh} {d:dens cs} {vs:List Value},RVs G (sgs cs d) vs→Xu cs d
 |[],_,_,_=>by simp only[Xu]
 |s::r,d,[],h=>by simp[sgs,RVs]at h
 |s::r,d,v::vs,h=>by
  simp only[Xu]
  exact⟨RdD.wfD s d.1 v h.1,RVs.wf h.2⟩
theorem RVv.wf {G:A6} {p:Bool×List Sh} {d:dens p.2} {v:Value} (h:RVv G (rv p d) v):Xu p.2 d:=by
 unfold RVv rv at h
 cases hp:p.1 with
 |true=>simp only[hp]at h;obtain⟨vs,_,h⟩:=h;exact h.wf
 |false=>simp only[hp]at h;exact RVs.wf h
theorem RVa.wf {G:A6}: ∀ {ps:List (Bool×List Sh)} {d:Oz ps} {vs:List Value},RVa G (mkA ps d) vs→WfA ps d
 |[],_,_,_=>trivial
 |p::r,d,[],h=>by simp[mkA,RVa]at h
 |p::r,d,v::vs,h=>⟨RVv.wf h.1,RVa.wf h.2⟩
theorem A7n {P:Program} {f:FuncId} {ps:List (Bool×List Sh)} {R:Type} {V:Oz ps→Option R} {rvs:R→List RV×List RV} {r:R} (hF:Fn P f .plain (Aw ps V rvs)) (hr:rvs r=([(false,[⟨.bool,true⟩])],[])) (hV: ∀d,WfA ps d→V d=some r)
  {w:World} {vs:List Value} {d:Oz ps} (h:RVa (C4 (Ow w)) (mkA ps d) vs):Calls P f vs.toArray w (Ret w (.bool true)):=by
 have hd:(Aw ps V rvs (mkA ps d)).val=some (rvs r):=by
  unfold Aw
  cases hu:unA ps (mkA ps d)with
  |none=>rw[As9]at hu;cases hu
  |some d'=>
   have e:d'=d:=Option.some.inj (hu.symm.trans (As9 ps d))
   subst e
   simp only[Tree.val,Tree.run,ob,hV _ h.wf]
 refine(hF.does (mkA ps d) _ vs w (C4 (Ow w)) hd (fun b o v hv=>?_) h).mono ?_
 ·unfold C4 Aa.cell Ow at hv
  cases e:w.heap[b]? with
  |none=>rw[e]at hv;cases hv
  |some ob'=>
   rw[e]at hv
   cases ob'<;>simp at hv
   simp[World.cell?,e,hv]
 ·rintro e w' ⟨v,f,rfl,g,hl,hf,hO⟩
  rw[hr]at hO
  refine Ret.mk ?_ g
  simp only[L4,OVv,OVs]at hO
  obtain⟨_,_,_,h1,_⟩:=hO
  simpa only[Bb] using h1
end
end Go.Proofs.YtmhhajdeafijmaaGreat
namespace Go.Proofs.YtmhhajdeafijmaaGreat
open Go.RowKit
set_option linter.unusedVariables false
set_option linter.unusedSimpArgs false
noncomputable section
section
variable {α β γ ρ:Type}
theorem Ac (x:α):(Tree.leaf x).val=some x:=rfl
theorem Ak (b:Bool) (t:Tree α):(Tree.chk b t).val=chk b t.val:=rfl
theorem Ae (b:Bool) (t f:Tree α):(Tree.br b t f).val=br b t.val f.val:=rfl
theorem Ai (x:Option β) (f:β→Tree α):(Tree.ob x f).val=ob x fun c=>(f c).val:=rfl
theorem Hb (x:β⊕γ) (f:β→Tree α) (g:γ→Tree α):(Tree.sm x f g).val=sm x (fun c=>(f c).val) fun c=>(g c).val:=rfl
theorem Ag (a:α) (f:α→Option ρ):ob (some a) f=f a:=rfl
theorem Bab (a:α) (f:α→Option ρ) (g:β→Option ρ):sm (.inl a:α⊕β) f g=f a:=rfl
theorem Asg (b:β) (f:α→Option ρ) (g:β→Option ρ):sm (.inr b:α⊕β) f g=g b:=rfl
theorem A0 (x y:Option ρ):br true x y=x:=rfl
theorem An (x y:Option ρ):br false x y=y:=rfl
theorem Ba (x:Option ρ):chk true x=x:=rfl
theorem A9w (b:Bool) (x y:Option ρ):br b x y=if b=true then x else y:=by cases b<;>rfl
theorem Ba7 (l:List α) (n:Int) (h0:0≤n) (i:Nat) (hi:n=i):idx l n=l[i]? :=by subst hi;unfold idx;rw[if_pos h0];simp
theorem A2u (l:List α) (i:Nat):idx l (i:Int)=l[i]? :=Ba7 l _ (by omega) i rfl
theorem Sq {l:List α} {n:Int} (h0:0≤n) (h1:n<l.length): ∃x,idx l n=some x∧x∈l:=by
 unfold idx
 rw[if_pos h0]
 have:n.toNat<l.length:=by omega
 exact⟨_,List.getElem?_eq_getElem this,List.getElem_mem this⟩
end
theorem w64 {n:Int} (h: -9223372036854775808≤n∧n≤9223372036854775807):IntKind.i64.wrap n=n:=IntWalk.i64_in n h
theorem w8 {n:Int} (h:0≤n∧n≤255):IntKind.u8.wrap n=n:=IntWalk.u8_in n h
theorem A6p {D O:Type} {B:D→Option (D⊕O)} (f:Nat→D) (n:Nat) (r:Option O):(∀i,i<n→B (f i)=some (.inl (f (i+1))))→Ay B (f n)=r→Ay B (f 0)=r:=by
 intro h he
 have key: ∀k,k≤n→Ay B (f (n-k))=r:=by
  intro k
  induction k with
  |zero=>intro _;exact he
  |succ k ih=>
   intro hk
   rw[C9,h _ (by omega)]
   simp only
   rw[show n-(k+1)+1=n-k by omega]
   exact ih (by omega)
 simpa using key n (Nat.le_refl _)
end
end Go.Proofs.YtmhhajdeafijmaaGreat
namespace Go.Proofs.YtmhhajdeafijmaaGreat
open Go.RowKit
set_option linter.unusedVariables false
set_option linter.unusedSimpArgs false
noncomputable section
def Dg {E:Type} (f:E→Nat):List E→Nat
 |[]=>0
 |x::r=>f x+Dg f r
theorem An1 {E:Type} {f:E→Nat}: ∀ {l:List E} {x:E},x∈l→f x≤Dg f l
 |y::r,x,h=>by
  simp only[Dg]
  rcases List.mem_cons.1 h with rfl|h
  ·omega
  ·have:=An1 (f:=f) h;omega
theorem Ac5 {E:Type} {f:E→Nat} {l:List E} {i:Nat} {x:E} (h:l[i]? =some x):f x≤Dg f l:=An1 (List.mem_of_getElem? h)
theorem Af8 {E:Type} {f:E→Nat}: ∀ {a b:List E},Dg f (a++b)=Dg f a+Dg f b
 |[],b=>by simp[Dg]
 |x::a,b=>by simp only[List.cons_append,Dg,Af8];omega
end
end Go.Proofs.YtmhhajdeafijmaaGreat
namespace Go.Proofs.YtmhhajdeafijmaaGreat
open Go.RowKit
set_option linter.unusedVariables false
set_option linter.unusedSimpArgs false
noncomputable section
theorem Xk {D1 D2 O1 O2:Type} {B1:D1→Option (D1⊕O1)} {B2:D2→Option (D2⊕O2)} (R:Nat→D1→D2→Prop) (Q:O1→O2→Prop) (n:Nat)
  (hs: ∀i d1 d2,i<n→R i d1 d2→(∃d1' d2',B1 d1=some (.inl d1')∧B2 d2=some (.inl d2')∧R (i+1) d1' d2')∨(∃o1 o2,B1 d1=some (.inr o1)∧B2 d2=some (.inr o2)∧Q o1 o2))
  (he: ∀d1 d2,R n d1 d2→ ∃o1 o2,B1 d1=some (.inr o1)∧B2 d2=some (.inr o2)∧Q o1 o2) {d1:D1} {d2:D2} (h:R 0 d1 d2):
  ∃o1 o2,Ay B1 d1=some o1∧Ay B2 d2=some o2∧Q o1 o2:=by
 have key: ∀k i,i+k=n→ ∀d1 d2,R i d1 d2→ ∃o1 o2,Ay B1 d1=some o1∧Ay B2 d2=some o2∧Q o1 o2:=by
  intro k
  induction k with
  |zero=>
   intro i hi d1 d2 h
   rw[show i=n by omega]at h
   obtain⟨o1,o2,h1,h2,hq⟩:=he d1 d2 h
   exact⟨o1,o2,by rw[C9,h1],by rw[C9,h2],hq⟩
  |succ k ih=>
   intro i hi d1 d2 h
   rcases hs i d1 d2 (by omega) h with⟨d1',d2',h1,h2,hr⟩|⟨o1,o2,h1,h2,hq⟩
   ·obtain⟨o1,o2,h3,h4,hq⟩:=ih (i+1) (by omega) d1' d2' hr
    exact⟨o1,o2,by rw[C9,h1];exact h3,by rw[C9,h2];exact h4,hq⟩
   ·exact⟨o1,o2,by rw[C9,h1],by rw[C9,h2],hq⟩
 exact key n 0 (by omega) d1 d2 h
end
end Go.Proofs.YtmhhajdeafijmaaGreat
namespace Go.Proofs.YtmhhajdeafijmaaGreat
open Go.RowKit
set_option linter.unusedVariables false
set_option linter.unusedSimpArgs false
noncomputable section
def Id {E:Type} (q:Nat→E→Bool):List E→Nat→Option Nat
 |[],_=>none
 |x::r,i=>match q i x with|true=>some i|false=>Id q r (i+1)
theorem Ud {E:Type} {q:Nat→E→Bool}: ∀ {l:List E} {i:Nat},Id q l i=none↔ ∀j x,l[j]? =some x→q (i+j) x=false
 |[],i=>by simp[Id]
 |x::r,i=>by
  simp only[Id]
  cases hq:q i x with
  |true=>
   simp only
   constructor
   ·intro h;cases h
   ·intro h
    have:=h 0 x rfl
    rw[Nat.add_zero,hq]at this;cases this
  |false=>
   simp only
   rw[Ud]
   refine⟨fun h j y hj=>?_,fun h j y hj=>?_⟩
   ·cases j with
    |zero=>simp at hj;subst hj;simpa using hq
    |succ j=>have:=h j y (by simpa using hj);rw[show i+(j+1)=i+1+j by omega];exact this
   ·have:=h (j+1) y (by simpa using hj);rw[show i+1+j=i+(j+1) by omega];exact this
theorem Zz {E:Type} {q:Nat→E→Bool}: ∀ {l:List E} {i k:Nat},Id q l i=some k→ ∃j x,k=i+j∧l[j]? =some x∧q k x=true∧ ∀j' y,j'<j→l[j']? =some y→q (i+j') y=false
 |[],i,k,h=>by simp[Id]at h
 |x::r,i,k,h=>by
  simp only[Id]at h
  cases hq:q i x with
  |true=>
   rw[hq]at h
   cases h
   exact⟨0,x,rfl,rfl,hq,fun j' y hj=>by omega⟩
  |false=>
   rw[hq]at h
   obtain⟨j,y,rfl,h2,h3,h4⟩:=Zz h
   refine⟨j+1,y,by omega,by simpa using h2,h3,fun j' z hj hz=>?_⟩
   cases j' with
   |zero=>simp at hz;subst hz;simpa using hq
   |succ j'=>have:=h4 j' z (by omega) (by simpa using hz);rw[show i+(j'+1)=i+1+j' by omega];exact this
def Hj {E:Type} (q:Nat→E→Bool) (l:List E):Bool:=(Id q l 0).isNone
theorem Akp {E:Type} {q:Nat→E→Bool} {l:List E}:Hj q l=true↔ ∀j x,l[j]? =some x→q j x=false:=by
 unfold Hj
 rw[Option.isNone_iff_eq_none,Ud]
 simp
theorem Z4 {E D X Y:Type} {B:D→Option (D⊕(X⊕Y))} (l:List E) (f:Nat→D) (q:Nat→E→Bool) (out:Nat→X) (fin:Y)
  (hs: ∀i x,i<l.length→l[i]? =some x→B (f i)=br (q i x) (some (.inr (.inl (out i)))) (some (.inl (f (i+1))))) (he:B (f l.length)=some (.inr (.inr fin))):
  Ay B (f 0)=some ((Id q l 0).elim (.inr fin) fun i=>.inl (out i)):=by
 have key: ∀k i,i+k=l.length→Ay B (f i)=some ((Id q (l.drop i) i).elim (.inr fin) fun i=>.inl (out i)):=by
  intro k
  induction k with
  |zero=>
   intro i hi
   have e:i=l.length:=by omega
   subst e
   rw[C9,he,List.drop_length];rfl
  |succ k ih=>
   intro i hi
   have hlt:i<l.length:=by omega
   have hx:=List.getElem?_eq_getElem hlt
   rw[C9,hs i _ hlt hx,List.drop_eq_getElem_cons hlt]
   simp only[Id]
   cases q i l[i]with
   |true=>rfl
   |false=>exact ih (i+1) (by omega)
 have:=key l.length 0 (by omega)
 rwa [List.drop_zero]at this
theorem Kb {E D X Y:Type} {B:D→Option (D⊕(X⊕Y))} (l:List E) (f:Nat→D) (q:Nat→E→Bool) (bad:X) (fin:Y)
  (hs: ∀i x,i<l.length→l[i]? =some x→B (f i)=br (q i x) (some (.inr (.inl bad))) (some (.inl (f (i+1))))) (he:B (f l.length)=some (.inr (.inr fin))):
  Ay B (f 0)=some (bif Hj q l then .inr fin else .inl bad):=by
 rw[Z4 l f q (fun _=>bad) fin hs he]
 unfold Hj
 cases Id q l 0<;>rfl
theorem Ap9 {D X Y:Type} {B:D→Option (D⊕(X⊕Y))} (n:Nat) (f:Nat→D) (q:Nat→Bool) (bad:X) (fin:Y)
  (hs: ∀i,i<n→B (f i)=br (q i) (some (.inr (.inl bad))) (some (.inl (f (i+1))))) (he:B (f n)=some (.inr (.inr fin))):
  Ay B (f 0)=some (bif Hj (fun i (_:Unit)=>q i) (List.replicate n ())then .inr fin else .inl bad):=
 Kb (List.replicate n ()) f (fun i _=>q i) bad fin (fun i x hi _=>hs i (by simpa using hi)) (by rw[List.length_replicate];exact he)
theorem Aby {n:Nat} {q:Nat→Bool}:Hj (fun i (_:Unit)=>q i) (List.replicate n ())=true↔ ∀i,i<n→q i=false:=by
 rw[Akp]
 refine⟨fun h i hi=>h i () (by simp[hi]),fun h i x hx=>h i ?_⟩
 rw[List.getElem?_replicate]at hx
 split at hx
 ·assumption
 ·cases hx
theorem Cp {D O:Type} {B:D→Option (D⊕O)} (n:Nat) (f:Nat→D) (o:O) (hs: ∀i,i<n→B (f i)=some (.inl (f (i+1)))) (he:B (f n)=some (.inr o)):Ay B (f 0)=some o:=
 A6p f n (some o) hs (by rw[C9,he])
theorem Kr {a b:Bool} (h:a=true↔b=true):a=b:=by cases a<;>cases b<;>simp_all
end
end Go.Proofs.YtmhhajdeafijmaaGreat
namespace Go.Proofs.YtmhhajdeafijmaaGreat
open Go.RowKit
set_option linter.unusedVariables false
noncomputable section
def N4:List Int:=[0x428a2f98,0x71374491,0xb5c0fbcf,0xe9b5dba5,0x3956c25b,0x59f111f1,0x923f82a4,0xab1c5ed5,
 0xd807aa98,0x12835b01,0x243185be,0x550c7dc3,0x72be5d74,0x80deb1fe,0x9bdc06a7,0xc19bf174,
 0xe49b69c1,0xefbe4786,0x0fc19dc6,0x240ca1cc,0x2de92c6f,0x4a7484aa,0x5cb0a9dc,0x76f988da,
 0x983e5152,0xa831c66d,0xb00327c8,0xbf597fc7,0xc6e00bf3,0xd5a79147,0x06ca6351,0x14292967,
 0x27b70a85,0x2e1b2138,0x4d2c6dfc,0x53380d13,0x650a7354,0x766a0abb,0x81c2c92e,0x92722c85,
 0xa2bfe8a1,0xa81a664b,0xc24b8b70,0xc76c51a3,0xd192e819,0xd6990624,0xf40e3585,0x106aa070,
 0x19a4c116,0x1e376c08,0x2748774c,0x34b0bcb5,0x391c0cb3,0x4ed8aa4a,0x5b9cca4f,0x682e6ff3,
 0x748f82ee,0x78a5636f,0x84c87814,0x8cc70208,0x90befffa,0xa4506ceb,0xbef9a3f7,0xc67178f2]
theorem A6q:Dr Aa.emp [Aa.emp,Aa.emp]:=by
 refine⟨?_,?_⟩
 ·simp only[List.pairwise_cons,List.mem_singleton,List.not_mem_nil]
  exact⟨fun g hg b=>.inl rfl,fun _ h=>h.elim,List.Pairwise.nil⟩
 ·intro g hg
  simp at hg;subst hg
  intro b o h;cases h
theorem A4o {w:World} {k:IntKind} {x:Int} {e:Ending} {w':World} (hw:(Lit.int k x).wf=true) (h:Ret w (.int k x) e w'):Rp w (L4 [(false,[⟨.int k,x⟩])]) e w':=by
 obtain⟨rfl,g⟩:=h
 refine Rp.mk Aa.emp g (fun b o h=>by cases h) (fun b o h=>by cases h) ?_
 simp only[L4,OVv,OVs]
 exact⟨Aa.emp,Aa.emp,A6q,by simp only[Bb];exact⟨trivial,hw⟩,trivial⟩
def Tw (n:Int):Int:=if 0≤n∧n≤63 then N4[n.toNat]?.getD 0 else 0
theorem A4p (n:Int):(Lit.int .i64 (Tw n)).wf=true:=by
 unfold Tw
 split
 ·cases h:N4[n.toNat]? with
  |none=>rfl
  |some x=>
   have hall: ∀x∈N4,(Lit.int .i64 x).wf=true:=by decide+kernel
   exact hall x (List.mem_of_getElem? h)
 ·rfl
def Api:Array Value:=(N4.map (Value.int .i64)).toArray
def Apj:Array Value:=(List.replicate 64 (Value.int .i64 0)).toArray
def Aiw (T:Nat) (w:World) (C:Array Value):World:=(w.alloc (.cells Apj T)).setRow w.heap.size C
theorem Au9 {P:Program} {ops:Array Oper} {rest:List Oper} {o:Oper} {a:Act} {w:World} {Q:Exit→Act→World→Prop} (hg:o.guard=none) (t:TypeId) (parts:Array (Nat×Operand)) (ho:o.op= .build t parts) (C:Array Value)
  (hf:P.built t (parts.map fun(i,x)=>(i,a.eval x)).toList=some C) (h:wpList P ops Q rest (a.put o.dst (.agg C)) w):wpList P ops Q (o::rest) a w:=by
 refine wpList_build hg t parts ho (by rw[hf];rfl) ?_
 rw[hf];exact h
theorem Ava {P:Program} {ops:Array Oper} {rest:List Oper} {o:Oper} {a:Act} {w:World} {Q:Exit→Act→World→Prop} (hg:o.guard=none) (t:TypeId) (ho:o.op= .alloc t) (i:TypeInfo) (z:Value) (Z:Array Value) (h1:P.info? t=some i) (h2:i.zero=some z) (h3:z.cells=Z)
  (h:wpList P ops Q rest (a.put o.dst (.pointer (some ⟨w.heap.size,0,none⟩))) (w.alloc (.cells Z t))):wpList P ops Q (o::rest) a w:=by
 refine wpList_plain hg fun _ hK=>Cc ?_ (hK _ _ h)
 unfold execOp;rw[ho]
 simp only[Instr.alloc,Sem.run_bind,Ax4 h1 h2,Result.andThen_ok,Sem.run_pure,Ab2,h3]
theorem Avb {P:Program} {ops:Array Oper} {rest:List Oper} {o:Oper} {a:Act} {w:World} {Q:Exit→Act→World→Prop} (hgd:o.guard=none) (T:Nat) (x y:Operand) (ho:o.op= .store T x y) (C:Array Value)
  (hx:a.eval x= .pointer (some ⟨w.heap.size,0,none⟩)) (hy:a.eval y= .agg C) (hi:(P.info? T).map (·.size)=some C.size) (hold:Apj.size=C.size) (h1:C.all (·.oneCell')=true)
  (h:wpList P ops Q rest (a.put o.dst undef) (Aiw T w C)):wpList P ops Q (o::rest) a (w.alloc (.cells Apj T)):=
 wpList_store_row hgd T x y ho w.heap.size C hx hy T Apj (heap_alloc_new w _) hi hold h1 h
theorem A4m (T:Nat) (w:World) (C:Array Value):Aiw T w C=w.alloc (.cells C T):=by
 unfold Aiw World.setRow World.alloc
 congr 1
 apply Array.ext_getElem?
 intro i
 simp only[Array.getElem?_modify,Array.getElem?_push]
 by_cases hi:w.heap.size=i
 ·subst hi;simp
 ·simp[hi,Ne.symm hi]
theorem Azp (T:Nat) (w:World) (C:Array Value) (j:Nat):(Aiw T w C).cell? ⟨w.heap.size,j,none⟩=C[j]? :=cell_setRow_same _ _ _ _ _ _ _ (heap_alloc_new w _)
end
end Go.Proofs.YtmhhajdeafijmaaGreat

/-
  An evaluator of functions by symbols, part 2, and that what it answers is what a call returns; nothing is assumed.
-/
import Derived.Test.YtmhhajdeafijmaaGreatEv0
namespace Go.Proofs.YtmhhajdeafijmaaGreat
open Go.RowKit
set_option linter.unusedVariables false
set_option linter.unusedSectionVars false
set_option linter.unusedSimpArgs false

theorem A3g (a b:ByteArray):(a.toList==b.toList)=decide (a=b):=by
 by_cases h:a=b
 ·subst h;simp
 ·have:a.toList≠b.toList:=fun e=>h (by
   rw[Go.ByteArray.toList_eq,Go.ByteArray.toList_eq]at e
   cases a;cases b
   congr
   exact Array.toList_inj.1 e)
  simp[h,this]
theorem Ab8 {P:Program} {w:World} {t:TypeId} {d:TypeDesc} (h:P.underlying t=some d) (hd:d.isRow=false) {xs:Array Value} {off:Nat} {v:Value} (hv:xs[off]? =some v):(part t xs off).run P w= .ok v w:=by
 unfold part
 rw[Sem.run_bind,Ab7 h,hd]
 simp[hv]
theorem Amm {P:Program} {w:World} {cx:Cx} {g:Gh} {st:St} (d:Nat) {XS YS:Array Value}: ∀ {fs:List Field} {ss:List Sh} {off:Nat} {xs ys:List Cl} {vs us:List Value} {b:Bool},Asz P fs ss off→xs.map Cl.sh=ss→CRs cx g st xs vs→CRs cx g st ys us→
  (∀j v,vs[j]? =some v→XS[off+j]? =some v)→(∀j v,us[j]? =some v→YS[off+j]? =some v)→Eg xs ys=some b→(Op.eqFields (d+1) XS YS fs).run P w= .ok b w
 |fs,ss,off,[],[],vs,us,b,he,hs,hx,hy,h1,h2,h=>by
  simp[Eg]at h;subst h
  simp at hs;subst hs
  cases fs with
  |nil=>simp[Op.eqFields]
  |cons f fs=>exact he.elim
 |fs,ss,off,⟨.int k,x,tk⟩::xs,⟨.int j,y,tj⟩::ys,v::vs,u::us,b,he,hs,hx,hy,h1,h2,h=>by
  simp only[Eg]at h
  split at h
  ·rename_i hkj;subst hkj
   obtain⟨b',hb',h⟩:=Ah h
   simp at h;subst h
   simp at hs;subst hs
   cases fs with
   |nil=>exact he.elim
   |cons f fs=>
    obtain⟨hn,ho,⟨k',hu⟩,he'⟩:=he
    have ev:v= .int k x:=hx.1.1.1
    have eu:u= .int k y:=hy.1.1.1
    have p1:=Ab8 (P:=P) (w:=w) hu rfl (xs:=XS) (off:=f.offset) (v:=v) (by rw[ho];simpa using h1 0 v rfl)
    have p2:=Ab8 (P:=P) (w:=w) hu rfl (xs:=YS) (off:=f.offset) (v:=u) (by rw[ho];simpa using h2 0 u rfl)
    subst ev eu
    have ih:=Amm (w:=w) d he' rfl hx.2 hy.2 (fun j v hv=>by have:=h1 (j+1) v (by simpa using hv);rw[show off+1+j=off+(j+1) by omega];exact this)
     (fun j v hv=>by have:=h2 (j+1) v (by simpa using hv);rw[show off+1+j=off+(j+1) by omega];exact this) hb'
    have e1:=run_equalIn_int (P:=P) w d f.type k k' x y hu
    simp only[Op.eqFields,hn,ne_eq,not_false_eq_true,if_true,Sem.run_bind,p1,p2,Result.andThen_ok,e1]
    cases hxy:((x:Int)==y)with
    |true=>simpa [hxy] using ih
    |false=>simp[hxy]
  ·cases h
 |fs,ss,off,⟨.bool,x,tk⟩::xs,⟨.bool,y,tj⟩::ys,v::vs,u::us,b,he,hs,hx,hy,h1,h2,h=>by
  simp only[Eg]at h
  obtain⟨b',hb',h⟩:=Ah h
  simp at h;subst h
  simp at hs;subst hs
  cases fs with
  |nil=>exact he.elim
  |cons f fs=>
   obtain⟨hn,ho,hu,he'⟩:=he
   have ev:v= .bool x:=hx.1.1
   have eu:u= .bool y:=hy.1.1
   have p1:=Ab8 (P:=P) (w:=w) hu rfl (xs:=XS) (off:=f.offset) (v:=v) (by rw[ho];simpa using h1 0 v rfl)
   have p2:=Ab8 (P:=P) (w:=w) hu rfl (xs:=YS) (off:=f.offset) (v:=u) (by rw[ho];simpa using h2 0 u rfl)
   subst ev eu
   have ih:=Amm (w:=w) d he' rfl hx.2 hy.2 (fun j v hv=>by have:=h1 (j+1) v (by simpa using hv);rw[show off+1+j=off+(j+1) by omega];exact this)
    (fun j v hv=>by have:=h2 (j+1) v (by simpa using hv);rw[show off+1+j=off+(j+1) by omega];exact this) hb'
   have e1:=run_equalIn_bool (P:=P) w d f.type x y hu
   simp only[Op.eqFields,hn,ne_eq,not_false_eq_true,if_true,Sem.run_bind,p1,p2,Result.andThen_ok,e1]
   cases hxy:((x:Bool)==y)with
   |true=>simpa [hxy] using ih
   |false=>simp[hxy]
 |_,_,_,[],_::_,_,_,_,_,_,_,_,_,_,h=>by simp[Eg]at h
 |_,_,_,_::_,[],_,_,_,_,_,_,_,_,_,h=>by simp[Eg]at h
 |_,_,_,_::_,_,[],_,_,_,_,hx,_,_,_,_=>hx.elim
 |_,_,_,_,_::_,_,[],_,_,_,_,hy,_,_,_=>hy.elim
 |_,_,_,⟨.int _,_,_⟩::_,⟨.bool,_,_⟩::_,_,_,_,_,_,_,_,_,_,h=>by simp[Eg]at h
 |_,_,_,⟨.int _,_,_⟩::_,⟨.str,_,_⟩::_,_,_,_,_,_,_,_,_,_,h=>by simp[Eg]at h
 |_,_,_,⟨.int _,_,_⟩::_,⟨.sl _ _,_,_⟩::_,_,_,_,_,_,_,_,_,_,h=>by simp[Eg]at h
 |_,_,_,⟨.bool,_,_⟩::_,⟨.int _,_,_⟩::_,_,_,_,_,_,_,_,_,_,h=>by simp[Eg]at h
 |_,_,_,⟨.bool,_,_⟩::_,⟨.str,_,_⟩::_,_,_,_,_,_,_,_,_,_,h=>by simp[Eg]at h
 |_,_,_,⟨.bool,_,_⟩::_,⟨.sl _ _,_,_⟩::_,_,_,_,_,_,_,_,_,_,h=>by simp[Eg]at h
 |_,_,_,⟨.junk,_,_⟩::_,_::_,_,_,_,_,_,_,_,_,_,h=>by simp[Eg]at h
 |_,_,_,⟨.int _,_,_⟩::_,⟨.junk,_,_⟩::_,_,_,_,_,_,_,_,_,_,h=>by simp[Eg]at h
 |_,_,_,⟨.bool,_,_⟩::_,⟨.junk,_,_⟩::_,_,_,_,_,_,_,_,_,_,h=>by simp[Eg]at h
 |_,_,_,⟨.str,_,_⟩::_,_::_,_,_,_,_,_,_,_,_,_,h=>by simp[Eg]at h
 |_,_,_,⟨.sl _ _,_,_⟩::_,_::_,_,_,_,_,_,_,_,_,_,h=>by simp[Eg]at h
theorem RM.addRead {cx:Cx} {w:World} {g:Gh} {st:St} (h:RM cx g st w) {U:Az} (hl:D8 U w) (hb: ∀k,st.has k=true→ ∀o,U (g.B k) o=none) (hF: ∀t b o,t∈st.live→(g.F t b).isSome=true→U b o=none) (hm: ∀b o v,U b o=some v→E6 cx b):
  RM cx ⟨Fr g.G U,g.B,g.F,g.V,g.S⟩ st w∧Ext g st ⟨Fr g.G U,g.B,g.F,g.V,g.S⟩ st:=by
 have hE:Ext g st ⟨Fr g.G U,g.B,g.F,g.V,g.S⟩ st:=⟨Ml _ _,fun _ _=>rfl,fun _ h=>h,fun _ h=>h,fun t ht _=>⟨ht,rfl,rfl,rfl,fun b o hs=>by simp[Fr,hF t b o ht hs]⟩⟩
 refine⟨⟨h.moved,?_,fun b o v hv=>Ml _ _ _ _ _ (h.g0 _ _ _ hv),h.old,?_,h.inj,?_,h.tok,h.apart,h.tokBox,h.nodup,?_⟩,hE⟩
 ·intro b o v hv
  simp only[Fr]at hv
  cases hg:g.G b o with
  |some x=>rw[hg]at hv;simp at hv;subst hv;exact h.lies b o x hg
  |none=>rw[hg]at hv;simp at hv;exact hl _ _ _ hv
 ·intro k cs hk
  obtain⟨vs,e,h1,h2,h3⟩:=h.box k cs hk
  exact⟨vs,e,h1,h2,h3.ext hE⟩
 ·intro k o hk
  simp[Fr,h.boxG k o hk,hb k hk o]
 ·intro b o v hv
  simp only[Fr]at hv
  cases hg:g.G b o with
  |some x=>rw[hg]at hv;simp at hv;subst hv;exact h.new b o x hg
  |none=>rw[hg]at hv;simp at hv;exact .inr (hm b o v hv)
theorem A9m {cx:Cx} {w:World} {gh:Gh} {st:St} (hM:RM cx gh st w) (s:ByteArray) (cap:Nat) (hc:s.size≤cap) (hm:cap≤maxLen) (e:TypeId) (fr:Nat×Nat):
  ∃gh',RM cx gh' st (w.drew.alloc (.cells (bytesRow s cap) e fr))∧Ext gh st gh' st∧ ∀e',RdD gh'.G (.sl e' [.int .u8]) (Pj s) (.slice (some ⟨w.heap.size,0,none⟩) s.size cap):=by
 have hM':=hM.world ((Cc.refl w).drew.alloc (.cells (bytesRow s cap) e fr))
 have hnew:=Dv hM (Nat.le_refl w.heap.size)
 let U:Az:=fun b o=>if b=w.heap.size then(bytesRow s cap)[o]? else none
 obtain⟨M2,E2⟩:=hM'.addRead (U:=U) (fun b o v hv=>by
   simp only[U]at hv
   split at hv
   ·rename_i hb;subst hb
    rw[←hv]
    exact World.cell?_alloc_mark w.drew (bytesRow s cap) e fr o
   ·cases hv) (fun k hk o=>by
   simp only[U];rw[if_neg (hnew.2.2 k hk)]) (fun t b o ht hs=>by
   simp only[U]
   rw[if_neg]
   intro hb;subst hb
   rw[hnew.2.1 t ht]at hs;cases hs) (fun b o v hv=>by
   simp only[U]at hv
   split at hv
   ·rename_i hb;subst hb;exact hnew.1
   ·cases hv)
 refine⟨_,M2,E2,fun e'=>?_⟩
 simp only[RdD]
 refine⟨some ⟨w.heap.size,0,none⟩,cap,by simp[Pj],by simpa [Pj] using hc,hm,fun h=>(by cases h),fun i d hd=>⟨w.heap.size,0,rfl,?_⟩⟩
 simp only[Pj,List.getElem?_map]at hd
 have hi:i<s.data.toList.length:=by
  rcases Nat.lt_or_ge i s.data.toList.length with h|h
  ·exact h
  ·rw[List.getElem?_eq_none h]at hd;cases hd
 rw[List.getElem?_eq_getElem hi]at hd
 simp at hd;subst hd
 simp only[Di]
 have hcell:(Fr gh.G U) w.heap.size (0+i*[Sh.int IntKind.u8].length)=some (.int .u8 (s.data[i]'(by simpa using hi)).toNat):=by
  simp only[Fr,Ol hM.lies (Nat.le_refl _) _,Option.none_or,U,if_true,bytesRow,List.length_singleton,Nat.mul_one,Nat.zero_add]
  rw[Array.getElem?_append_left (by simpa using hi)]
  simp only[Array.getElem?_map]
  rw[Array.getElem?_eq_getElem (by simpa using hi)]
  rfl
 refine⟨⟨_,hcell,?_⟩,trivial⟩
 show Value.int IntKind.u8 _=Value.int IntKind.u8 _∧_
 refine⟨rfl,?_⟩
 have:=(s.data[i]'(by simpa using hi)).toNat_lt
 simp[Lit.wf,IntKind.min,IntKind.max,IntKind.signed,IntKind.bits];omega
section
theorem Ab9 {w:World} {b n:Nat} {C:Array Value} {e:TypeId} (hb:w.heap[b]? =some (.cells C e (0,0))) (k:Nat):(w.freeze ⟨b,n,none⟩ 1).heap[k]? =if k=b then some (.cells C e (n,n+1))else w.heap[k]? :=by
 unfold World.freeze
 rw[if_neg (by decide)]
 simp only[Array.getElem?_modify]
 by_cases h:b=k
 ·subst h;rw[if_pos rfl,if_pos rfl,hb];rfl
 ·rw[if_neg h,if_neg (fun e=>h e.symm)]
theorem RM.freeze {cx:Cx} {w:World} {g:Gh} {st:St} (h:RM cx g st w) {b n:Nat} {C:Array Value} {e:TypeId} (hb:w.heap[b]? =some (.cells C e (0,0))) (hn:E6 cx b)
  (hbox: ∀k,st.has k=true→g.B k≠b) (htok: ∀t,t∈st.live→g.F t b=none):RM cx g st (w.freeze ⟨b,n,none⟩ 1):=by
 have hlt:b<w.heap.size:=(Array.getElem?_eq_some_iff.1 hb).1
 refine⟨⟨?_,?_,?_,?_,?_⟩,?_,h.g0,h.old,?_,h.inj,h.boxG,?_,h.apart,h.tokBox,h.nodup,h.new⟩
 ·rw[←h.moved.os];unfold World.freeze;rw[if_neg (by decide)]
 ·rw[←h.moved.tape];unfold World.freeze;rw[if_neg (by decide)]
 ·rw[←h.moved.output];unfold World.freeze;rw[if_neg (by decide)]
 ·refine Nat.le_trans h.moved.size ?_;unfold World.freeze;rw[if_neg (by decide)];simp
 ·intro k hk hf
  rw[Ab9 hb,if_neg,h.moved.block k hk hf]
  intro e;subst e
  rcases hn with q|q
  ·omega
  ·rw[hf]at q;cases q
 ·intro c o v hv
  have h1:=h.lies c o v hv
  unfold World.cell? at h1 ⊢
  simp only at h1 ⊢
  rw[Ab9 hb]
  by_cases hc:c=b
  ·subst hc;rw[hb]at h1;rw[if_pos rfl];exact h1
  ·rw[if_neg hc];exact h1
 ·intro k cs hk
  obtain⟨vs,e',h1,h2,h3⟩:=h.box k cs hk
  exact⟨vs,e',by rw[Ab9 hb,if_neg (hbox k (Fk hk))];exact h1,h2,h3⟩
 ·intro t ht
  obtain⟨h1,h2,h3⟩:=h.tok t ht
  refine⟨h1,fun k o hk=>?_,h3⟩
  rw[Ab9 hb,if_neg (fun e=>by rw[e,htok t ht]at hk;cases hk)]
  exact h2 k o hk
theorem Aqn {P:Program} (w:World) (t e:TypeId) {b n c:Nat} {C:Array Value} {e':TypeId} {fr:Nat×Nat} (hb:w.heap[b]? =some (.cells C e' fr)) (ht:P.underlying t=some (.slice e)) (he:P.underlying e=some (.int .u8)):
  (convert t t (.slice (some ⟨b,0,none⟩) n c)).run P w= .ok (.slice (some ⟨b,0,none⟩) n c) (w.freeze ⟨b,C.size,none⟩ 1):=by
 have hsh:w.shape? b=some (e',C.size):=by
  unfold World.shape?
  rw[hb]
 simp[convert,run_underlying ht,run_underlying he,markStringish,hsh]
variable {P:Program} {g:Cfg} (hC:CfgOk P g) {cx:Cx} {gh:Gh} {st:St} {a:Act} {w:World} {nt:Nat} (hM:RM cx gh st w) (hE:Env nt cx gh st a)
 {o:Oper} {ρ:Type} {k:PV→Ef→Option ρ} {r:ρ} {next:Act→World→Prop} {Q:Exit→Act→World→Prop}
 (hk: ∀pv ef,k pv ef=some r→ ∃st',ef.app o.dst st=some st')
 (hn: ∀gh' pv ef st' v w',k pv ef=some r→ef.app o.dst st=some st'→RM cx gh' st' w'→Ext gh st gh' st'→st'.env=st.env→VR cx gh' st' pv v→next (a.put o.dst v) w')
include hC hM hE hk hn
theorem A9n {op:BinOp} {t u:Nat} {x y:Operand} (ho:o.op= .binOp op t x y u) (h:(ob (g.ty t) fun T=>ob (evO g.ty st t x) fun p=>ob (evO g.ty st u y) fun q=>Auo T op p q fun r=>k (.v false [r]) .none)=some r):o.wp P a w next Q:=by
 obtain⟨T,hT,h⟩:=Ah h
 obtain⟨p,hp,h⟩:=Ah h
 obtain⟨q,hq,h⟩:=Ah h
 have hvp:=Gu hE hp
 have hvq:=Gu hE hq
 have hok:=hC.ty t T hT
 have key: ∃c v,k (.v false [c]) .none=some r∧(eqGuard op t x y (a.eval x) (a.eval y)).run P w= .ok () w∧(binOp op t (a.eval x) (a.eval y)).run P w= .ok v w∧RdC c v:=by
  unfold Auo at h
  split at h
  ·rename_i k1 m tm k2 n tn _
   have e1:a.eval x= .int k1 m:=hvp.1.1.1
   have e2:a.eval y= .int k2 n:=hvq.1.1.1
   have hg:(eqGuard op t x y (a.eval x) (a.eval y)).run P w= .ok () w:=by rw[e1,e2];cases op<;>simp[eqGuard,Sem.run]
   have w1:(Lit.int k1 m).wf=true:=hvp.1.1.2
   have w2:(Lit.int k2 n).wf=true:=hvq.1.1.2
   split at h
   ·obtain⟨c,v,h1,h2,h3⟩:=Awa (P:=P) (w:=w) (t:=t) (j:=k2) w1 h
    exact⟨c,v,h1,hg,by rw[e1,e2];exact h2,h3⟩
   ·obtain⟨c,v,h1,h2,h3⟩:=Awa (P:=P) (w:=w) (t:=t) (j:=k2) w1 h
    exact⟨c,v,h1,hg,by rw[e1,e2];exact h2,h3⟩
   ·rename_i hn1 hn2
    split at h
    ·rename_i hk;subst hk
     obtain⟨c,v,h1,h2,h3⟩:=Ba8 (P:=P) (w:=w) (t:=t) w1 w2 ⟨hn1,hn2⟩ h
     exact⟨c,v,h1,hg,by rw[e1,e2];exact h2,h3⟩
    ·cases h
  ·rename_i b1 t1 b2 t2 _
   have e1:a.eval x= .bool b1:=hvp.1.1
   have e2:a.eval y= .bool b2:=hvq.1.1
   split at h
   ·rename_i hag hsh _ _ _
    have hu:=hok.bool hag hsh
    refine⟨_,_,h,by rw[e1,e2];simp[eqGuard,Sem.run],?_,J1 _⟩
    rw[e1,e2]
    simp[binOp,Sem.run_bind,run_equal_bool _ _ _ _ hu]
   ·rename_i hag hsh _ _ _
    have hu:=hok.bool hag hsh
    refine⟨_,_,h,by rw[e1,e2];simp[eqGuard,Sem.run],?_,J1 _⟩
    rw[e1,e2]
    simp[binOp,Sem.run_bind,run_equal_bool _ _ _ _ hu]
   ·cases h
  ·rename_i b1 t1 b2 t2 _
   have e1:a.eval x= .string b1:=hvp.1.1
   have e2:a.eval y= .string b2:=hvq.1.1
   split at h
   ·rename_i hag hsh _ _ _
    have hu:=hok.str hag hsh
    refine⟨_,_,h,by rw[e1,e2];simp[eqGuard,Sem.run],?_,J1 _⟩
    rw[e1,e2]
    simp[binOp,Op.stringOp,Sem.run_pure,A3g]
   ·rename_i hag hsh _ _ _
    have hu:=hok.str hag hsh
    refine⟨_,_,h,by rw[e1,e2];simp[eqGuard,Sem.run],?_,J1 _⟩
    rw[e1,e2]
    simp[binOp,Op.stringOp,Sem.run_pure,A3g]
   ·cases h
  ·rename_i xs ys _
   obtain⟨hb,h⟩:=A2 h
   simp only[Bool.and_eq_true]at hb
   obtain⟨hu,hs1,hs2,hs3⟩:=hok.eqv hb.1.1 hb.1.2
   have hsh:=Sh.eq_of_beqs _ _ hb.2
   obtain⟨vs,e1,c1⟩:=hvp
   obtain⟨us,e2,c2⟩:=hvq
   have hg:(eqGuard op t x y (a.eval x) (a.eval y)).run P w= .ok () w:=by rw[e1,e2];exact run_eqGuard_agg w op t x y _ _ hs2
   have hrun: ∀b,Eg xs ys=some b→(Op.equalIn 10000 t (.agg vs.toArray) (.agg us.toArray)).run P w= .ok b w:=fun b hb=>by
    rw[show 10000=9999+1 from rfl,run_equalIn_struct w 9999 t _ _ hu hs1]
    exact Amm 9998 hs3 hsh c1 c2 (fun j v hv=>by simpa using hv) (fun j v hv=>by simpa using hv) hb
   split at h
   ·obtain⟨b,hb',h⟩:=Ah h
    refine⟨_,_,h,hg,?_,J1 _⟩
    rw[e1,e2,run_eql_struct,hrun b hb'];rfl
   ·obtain⟨b,hb',h⟩:=Ah h
    refine⟨_,_,h,hg,?_,J1 _⟩
    rw[e1,e2,run_neq_struct,hrun b hb'];rfl
   ·cases h
  ·cases h
 obtain⟨c,v,h1,h2,h3,h4⟩:=key
 refine B4 (v:=v) (w':=w) ?_ (hn gh _ .none st _ w h1 rfl hM (Ext.refl _ _) rfl h4.cr)
 unfold execOp;rw[ho]
 simp only[Sem.run_bind,Sem.run_pure,Result.andThen_ok,h2,h3]
theorem A5n {s d:Nat} {x:Operand} (ho:o.op= .convert s d x) (h:(ob (g.ty s) fun S=>ob (g.ty d) fun T=>ob (ev1 g.ty st s x) fun c=>
  match S.agg,S.shs,T.agg,T.shs,c with
  |_,_,false,[.int j],⟨.int _,n,_⟩=>k (.v false [⟨.int j,j.wrap n,.nil⟩]) .none
  |false,[.sl _ [.int .u8]],false,[.str],⟨.sl _ [.int .u8],l,_⟩=>k (.v false [⟨.str,Ko l,.nil⟩]) .none
  |false,[.str],false,[.sl e [.int .u8]],⟨.str,s,_⟩=>chk (decide ((s:ByteArray).size≤4294967296)) (k (.v false [⟨.sl e [.int .u8],Pj s,.rd⟩]) .none)
  |false,[.sl _ [.int .u8]],false,[.sl _ [.int .u8]],⟨.sl e [.int .u8],l,.own t⟩=>chk (Nat.beq s d) (chk (Nat.blt 0 (List.length (α:=dens [.int .u8]) l)) (k (.v false [⟨.sl e [.int .u8],l,.rd⟩]) (.toks [t] [])))
  |_,_,_,_,_=>none)=some r):o.wp P a w next Q:=by
 obtain⟨S,hS,h⟩:=Ah h
 obtain⟨T,hT,h⟩:=Ah h
 obtain⟨c,hc,h⟩:=Ah h
 obtain⟨_,_,D,_,_,_,_,hD,_⟩:=(hC.ty s S hS).inf
 split at h
 ·rename_i j kk n tk hag hsh
  have hu:=(hC.ty d T hT).int j hag hsh
  have e:a.eval x= .int kk n:=(Ih hE hc).1.1
  refine B4 (v:=.int j (j.wrap n)) (w':=w) ?_ (hn gh _ .none st _ w h rfl hM (Ext.refl _ _) rfl (Em (wf_wrap _ _)).cr)
  unfold execOp;rw[ho]
  simp only[e,convert,Sem.run_bind,Sem.run_pure,Result.andThen_ok,run_underlying hD w,run_underlying hu w,Conv.intToInt]
 ·rename_i e0 e1 l tk hsa hss hag hsh
  have hu:=(hC.ty d T hT).str hag hsh
  have hs:=((hC.ty s S hS).sl e0 _ hsa hss).1
  have he:=(hC.ty s S hS).elt e0 _ hsa hss
  have hrd:RdD gh.G (.sl e1 [.int .u8]) l (a.eval x):=(Ih hE hc).1
  simp only[RdD]at hrd
  obtain⟨ad,cap,hv,hcap,hmax,hnil,hel⟩:=hrd
  refine B4 (v:=.string (Ko l)) (w':=w) ?_ (hn gh _ .none st _ w h rfl hM (Ext.refl _ _) rfl (show VR cx gh st (.v false [⟨.str,Ko l,.nil⟩]) _ from⟨⟨rfl,fun _ _ e=>by cases e⟩,trivial⟩))
  unfold execOp;rw[ho]
  have hrun:(convert s d (.slice ad (List.length (α:=dens [.int .u8]) l) cap)).run P w= .ok (.string (Ko l)) w:=by
   cases ad with
   |none=>
    rw[run_convert_bytes_nil w s e0 hs he _ _ d hu]
    have:l=[]:=by
     cases l with
     |nil=>rfl
     |cons d r=>obtain⟨b,o,hE,_⟩:=hel 0 d rfl;cases hE
    subst this;rfl
   |some ad=>
    cases l with
    |nil=>
     rw[run_convert_bytes_string w s d e0 _ _ cap hs he hu,run_bytesToString w ad _ cap [] (by
      have:=run_loadCells_list (P:=P) w ad [] (fun j v hj=>by simp at hj)
      simpa using this)]
     rfl
    |cons d0 r0=>
     obtain⟨b,oo,hE,_⟩:=hel 0 d0 rfl
     cases hE
     rw[run_convert_bytes_arg w s e0 hs he b oo _ cap ((d0::r0).map fun d=>d.1) (by simp) (fun i hi=>?_) d hu]
     ·simp[strOfNums,Ko]
     ·have hi':i<(d0::r0).length:=hi
      obtain⟨b',o',hE',hrd'⟩:=hel i _ (List.getElem?_eq_getElem hi')
      cases hE'
      simp only[Di]at hrd'
      obtain⟨⟨u,h1,h2⟩,_⟩:=hrd'
      simp only[RdD]at h2
      have:=hM.lies _ _ _ h1
      rw[h2.1]at this
      simp only[List.length_singleton,Nat.mul_one]at this
      rw[this]
      have h9:((d0::r0).map fun d=>d.1)[i]? =some ((d0::r0)[i]'hi').1:=by rw[List.getElem?_map,List.getElem?_eq_getElem hi'];rfl
      rw[List.getD_eq_getElem?_getD,h9];rfl
  simp only[hv,Sem.run_bind,Sem.run_pure,Result.andThen_ok,hrun]
 ·rename_i e str tk hsa hss hag hsh
  obtain⟨hsz,h⟩:=A2 h
  simp only[decide_eq_true_eq]at hsz
  have hs:=(hC.ty s S hS).str hsa hss
  have hd:=((hC.ty d T hT).sl e _ hag hsh).1
  have he:=(hC.ty d T hT).elt e _ hag hsh
  have hv:a.eval x= .string str:=(Ih hE hc).1
  have hrun:=run_bytes_of_string (P:=P) w s d e str hs hd he
  obtain⟨gh',M',E',hrd⟩:=A9m hM str (grownCap w str.size 0 e) (grownCap_ge w _ _ _) (grownCap_le_maxLen w _ _ _ (by unfold maxLen;omega)) e ((bytesRow str (grownCap w str.size 0 e)).size,(bytesRow str (grownCap w str.size 0 e)).size+1)
  refine B4 (v:=.slice (some ⟨w.heap.size,0,none⟩) str.size (grownCap w str.size 0 e)) (w':=_) ?_ (hn gh' _ .none st _ _ h rfl M' E' rfl (show VR cx gh' st (.v false [⟨.sl e [.int .u8],Pj str,.rd⟩]) _ from⟨⟨hrd e,trivial⟩,trivial⟩))
  unfold execOp;rw[ho]
  simp only[hv,Sem.run_bind,Sem.run_pure,Result.andThen_ok,hrun]
 ·rename_i e0 e1 e2 l t hsa hss hag hsh
  obtain⟨hsd0,hA⟩:=A2 h
  obtain⟨hpos0,hB⟩:=A2 hA
  have hsd:=Nat.eq_of_beq_eq_true hsd0
  have hpos:0<List.length (α:=dens [.int .u8]) l:=Nat.le_of_ble_eq_true hpos0
  obtain⟨st',hst⟩:=hk _ _ hB
  have hst0:=hst
  obtain⟨lv,hlv,hst⟩:=Ah hst
  obtain⟨us,hus,hst⟩:=Ah hst
  simp only[N4,Option.some.injEq]at hus
  subst hus
  simp only[List.reverse_nil,List.nil_append,Option.some.injEq]at hst
  subst hst
  simp only[eat]at hlv
  cases hct:st.live.contains t with
  |false=>rw[hct]at hlv;cases hlv
  |true=>
   rw[hct]at hlv
   simp only[cond_true,Option.some.injEq]at hlv
   subst hlv
   have ht:t∈st.live:=List.contains_iff_mem.1 hct
   have hs:=((hC.ty s S hS).sl e0 _ hsa hss).1
   have he:=(hC.ty s S hS).elt e0 _ hsa hss
   obtain⟨hrd,_,hown⟩:=Ih hE hc
   obtain⟨hO,_⟩:=hown ht
   simp only[A4]at hO
   obtain⟨css,r,hs',⟨_,⟨_,h0⟩|⟨b,cap,cur,hv,hr,_⟩⟩,hp,_⟩:=hO
   ·omega
   ·have hFb:=hp.2 r (by simp) b _ hr
    obtain⟨_,hl,hmine⟩:=hM.tok t ht
    have hheap:=hl b _ hFb
    obtain⟨M1,E1⟩:=hM.drop (live:=st.live.erase t) (fun u hu=>List.mem_of_mem_erase hu) (hM.nodup.erase t)
    have M2:=M1.freeze (n:=cur.size) hheap (hmine b _ hFb) (fun k hk e=>by
     have:=hM.tokBox t k ht hk
     rw[e,hFb]at this;cases this) (fun u hu=>by
     have hu':=(hM.nodup.mem_erase_iff).1 hu
     rcases hM.apart u t hu'.2 ht hu'.1 b with q|q
     ·exact q
     ·rw[q]at hFb;cases hFb)
    refine B4 (v:=a.eval x) (w':=_) ?_ (hn gh _ _ _ _ _ hB hst0 M2 E1 rfl (show VR cx gh _ (.v false [⟨.sl e2 [.int .u8],l,.rd⟩]) _ from⟨⟨hrd,trivial⟩,trivial⟩))
    unfold execOp;rw[ho,←hsd]
    simp only[hv,Sem.run_bind,Sem.run_pure,Result.andThen_ok,Aqn w s e0 hheap hs he]
 ·cases h
end
end Go.Proofs.YtmhhajdeafijmaaGreat
namespace Go.Proofs.YtmhhajdeafijmaaGreat
open Go.RowKit
set_option linter.unusedVariables false
set_option linter.unusedSectionVars false
set_option linter.unusedSimpArgs false

def Ee (cx:Cx) (gh:Gh) (st:St) (f:Ac):Prop:=∀b o,f b=some o→E6 cx b∧(∀t,t∈st.live→gh.F t b=none)∧(∀k,st.has k=true→gh.B k≠b)∧ ∀o',gh.G b o'=none
def more (st:St) (n k:Nat):St:={st with live:=(List.range' n k).reverse++st.live,used:=(List.range' n k).reverse++st.used}
theorem Awf (st:St) (n k:Nat):more st n (k+1)=more {st with live:=n::st.live,used:=n::st.used} (n+1) k:=by
 simp[more,List.range'_succ]
theorem Ti (st:St) (n:Nat):more st n 0=st:=by simp[more]
theorem J2: ∀(n:Nat) (xs:List Sg),n≤(B9 n xs).2
 |n,[]=>Nat.le_refl _
 |n,⟨.sl e cs,d⟩::r=>Nat.le_trans (Nat.le_succ n) (J2 (n+1) r)
 |n,⟨.int k,d⟩::r=>J2 n r
 |n,⟨.bool,d⟩::r=>J2 n r
 |n,⟨.str,d⟩::r=>J2 n r
 |n,⟨.junk,d⟩::r=>J2 n r
theorem Nf: ∀(n:Nat) (rs:List RV),n≤(B5 n rs).2
 |n,[]=>Nat.le_refl _
 |n,(a,xs)::r=>Nat.le_trans (J2 n xs) (Nf _ r)
theorem Gl: ∀ {m used used':List Nat},N4 used m=some used'→used'=m.reverse++used∧ ∀t,t∈m→t∉used
 |[],used,used',h=>by simp[N4]at h;subst h;exact⟨rfl,fun t h=>by cases h⟩
 |t::r,used,used',h=>by
  simp only[N4]at h
  cases hc:used.contains t with
  |true=>rw[hc]at h;cases h
  |false=>
   rw[hc]at h
   obtain⟨h1,h2⟩:=Gl h
   refine⟨by rw[h1];simp,fun u hu hm=>?_⟩
   rcases List.mem_cons.1 hu with e|hu'
   ·subst e;rw[List.contains_iff_mem.2 hm]at hc;cases hc
   ·exact h2 u hu' (List.mem_cons_of_mem _ hm)
theorem N6 {cx:Cx} {w:World}: ∀ {xs:List Sg} {vs:List Value} {f:Ac} {gh:Gh} {st:St} {n:Nat},RM cx gh st w→OVs f xs vs→Ba f w→Ee cx gh st f→(∀t,n≤t→t<(B9 n xs).2→t∉st.used)→
  ∃gh',RM cx gh' (more st n ((B9 n xs).2-n)) w∧Ext gh st gh' (more st n ((B9 n xs).2-n))∧
   CRs cx gh' (more st n ((B9 n xs).2-n)) (B9 n xs).1 vs∧
   ∀h:Ac,Ee cx gh st h→h.apart f→Ee cx gh' (more st n ((B9 n xs).2-n)) h
 |[],[],f,gh,st,n,hM,_,_,_,_=>by
  have:more st n ((B9 n []).2-n)=st:=by simp[B9,Ti]
  rw[this]
  exact⟨gh,hM,Ext.refl _ _,trivial,fun h hh _=>hh⟩
 |⟨.sl e cs,d⟩::xs,v::vs,f,gh,st,n,hM,⟨p,q,hp,hO,hr⟩,hl,hf,hu=>by
  have lp:Ba p w:=hl.sub (hp.2 p (by simp))
  have lq:Ba q w:=hl.sub (hp.2 q (by simp))
  have hpq:p.apart q:=(List.pairwise_cons.1 hp.1).1 q (by simp)
  have hap: ∀h:Ac,h.apart f→h.apart p∧h.apart q:=fun h hh=>⟨Ac.apart_sub hh (Ac.sub_refl _) (hp.2 p (by simp)),Ac.apart_sub hh (Ac.sub_refl _) (hp.2 q (by simp))⟩
  have fp:Ee cx gh st p:=fun b o hb=>hf b o (hp.2 p (by simp) b o hb)
  have fq:Ee cx gh st q:=fun b o hb=>hf b o (hp.2 q (by simp) b o hb)
  have hroom:N5 gh.G (Hr (.sl e cs)) v:=fun b n cap hv hc o ho=>by
   have:=A4.root (s:=.sl e cs) rfl hO hv hc
   obtain⟨ob,hob⟩:=Option.isSome_iff_exists.1 this
   exact(fp b ob hob).2.2.2 o
  have hge:=J2 (n+1) xs
  have hdr:(B9 n (⟨.sl e cs,d⟩::xs)).2=(B9 (n+1) xs).2:=rfl
  have hlen:(B9 n (⟨.sl e cs,d⟩::xs)).2-n=((B9 (n+1) xs).2-(n+1))+1:=by rw[hdr];omega
  have hst:more st n ((B9 n (⟨.sl e cs,d⟩::xs)).2-n)=more {st with live:=n::st.live,used:=n::st.used} (n+1) ((B9 (n+1) xs).2-(n+1)):=by
   rw[hlen];exact Awf st n _
  rw[hst]
  obtain⟨g1,M1,E1,C1,B1,G1,F1,V1⟩:=As2 hM (hu n (Nat.le_refl _) (by rw[hdr];omega)) (live':=st.live) (fun _ h=>h) hM.nodup lp (s:=.sl e cs) (hsl:=rfl) (hf:=fun b o hb=>.inl ⟨(fp b o hb).1,(fp b o hb).2.1,(fp b o hb).2.2.1⟩) (hO:=hO) (hr:=hroom)
  have step: ∀h:Ac,Ee cx gh st h→h.apart p→Ee cx g1 {st with live:=n::st.live,used:=n::st.used} h:=fun h hh ha b o hb=>by
   obtain⟨a1,a2,a3,a4⟩:=hh b o hb
   have hpb:p b=none:=(ha b).resolve_left (by rw[hb];simp)
   refine⟨a1,fun t ht=>?_,fun k hk=>by rw[B1];exact a3 k hk,fun o'=>by rw[G1 b hpb];exact a4 o'⟩
   rw[F1]
   simp only
   split
   ·exact hpb
   ·rename_i hne
    rcases List.mem_cons.1 ht with e|ht'
    ·exact(hne e).elim
    ·exact a2 t ht'
  obtain⟨g2,M2,E2,C2,N2⟩:=N6 (st:={st with live:=n::st.live,used:=n::st.used}) (n:=n+1) M1 hr lq (step q fq (Ac.apart_symm hpq)) (fun t h1 h2 hm=>by
   rcases List.mem_cons.1 hm with e|hm'
   ·omega
   ·exact hu t (by omega) (by rw[hdr];exact h2) hm')
  exact⟨g2,M2,E1.trans E2,⟨C1.ext E2,C2⟩,fun h hh ha=>N2 h (step h hh (hap h ha).1) (hap h ha).2⟩
 |⟨.int k,d⟩::xs,v::vs,f,gh,st,n,hM,⟨p,q,hp,hO,hr⟩,hl,hf,hu=>by
  have lp:Ba p w:=hl.sub (hp.2 p (by simp))
  have lq:Ba q w:=hl.sub (hp.2 q (by simp))
  have hpq:p.apart q:=(List.pairwise_cons.1 hp.1).1 q (by simp)
  have hap: ∀h:Ac,h.apart f→h.apart p∧h.apart q:=fun h hh=>⟨Ac.apart_sub hh (Ac.sub_refl _) (hp.2 p (by simp)),Ac.apart_sub hh (Ac.sub_refl _) (hp.2 q (by simp))⟩
  have fp:Ee cx gh st p:=fun b o hb=>hf b o (hp.2 p (by simp) b o hb)
  have fq:Ee cx gh st q:=fun b o hb=>hf b o (hp.2 q (by simp) b o hb)
  obtain⟨g2,M2,E2,C2,N2⟩:=N6 (n:=n) hM hr lq fq hu
  exact⟨g2,M2,E2,⟨⟨by simpa only[A4,RdD] using hO,fun e cs he=>by cases he⟩,C2⟩,fun h hh ha=>N2 h hh (hap h ha).2⟩
 |⟨.bool,d⟩::xs,v::vs,f,gh,st,n,hM,⟨p,q,hp,hO,hr⟩,hl,hf,hu=>by
  have lp:Ba p w:=hl.sub (hp.2 p (by simp))
  have lq:Ba q w:=hl.sub (hp.2 q (by simp))
  have hpq:p.apart q:=(List.pairwise_cons.1 hp.1).1 q (by simp)
  have hap: ∀h:Ac,h.apart f→h.apart p∧h.apart q:=fun h hh=>⟨Ac.apart_sub hh (Ac.sub_refl _) (hp.2 p (by simp)),Ac.apart_sub hh (Ac.sub_refl _) (hp.2 q (by simp))⟩
  have fp:Ee cx gh st p:=fun b o hb=>hf b o (hp.2 p (by simp) b o hb)
  have fq:Ee cx gh st q:=fun b o hb=>hf b o (hp.2 q (by simp) b o hb)
  obtain⟨g2,M2,E2,C2,N2⟩:=N6 (n:=n) hM hr lq fq hu
  exact⟨g2,M2,E2,⟨⟨by simpa only[A4,RdD] using hO,fun e cs he=>by cases he⟩,C2⟩,fun h hh ha=>N2 h hh (hap h ha).2⟩
 |⟨.str,d⟩::xs,v::vs,f,gh,st,n,hM,⟨p,q,hp,hO,hr⟩,hl,hf,hu=>by
  have lp:Ba p w:=hl.sub (hp.2 p (by simp))
  have lq:Ba q w:=hl.sub (hp.2 q (by simp))
  have hpq:p.apart q:=(List.pairwise_cons.1 hp.1).1 q (by simp)
  have hap: ∀h:Ac,h.apart f→h.apart p∧h.apart q:=fun h hh=>⟨Ac.apart_sub hh (Ac.sub_refl _) (hp.2 p (by simp)),Ac.apart_sub hh (Ac.sub_refl _) (hp.2 q (by simp))⟩
  have fp:Ee cx gh st p:=fun b o hb=>hf b o (hp.2 p (by simp) b o hb)
  have fq:Ee cx gh st q:=fun b o hb=>hf b o (hp.2 q (by simp) b o hb)
  obtain⟨g2,M2,E2,C2,N2⟩:=N6 (n:=n) hM hr lq fq hu
  exact⟨g2,M2,E2,⟨⟨by simpa only[A4,RdD] using hO,fun e cs he=>by cases he⟩,C2⟩,fun h hh ha=>N2 h hh (hap h ha).2⟩
 |⟨.junk,d⟩::xs,v::vs,f,gh,st,n,hM,⟨p,q,hp,hO,hr⟩,hl,hf,hu=>by
  have lp:Ba p w:=hl.sub (hp.2 p (by simp))
  have lq:Ba q w:=hl.sub (hp.2 q (by simp))
  have hpq:p.apart q:=(List.pairwise_cons.1 hp.1).1 q (by simp)
  have hap: ∀h:Ac,h.apart f→h.apart p∧h.apart q:=fun h hh=>⟨Ac.apart_sub hh (Ac.sub_refl _) (hp.2 p (by simp)),Ac.apart_sub hh (Ac.sub_refl _) (hp.2 q (by simp))⟩
  have fp:Ee cx gh st p:=fun b o hb=>hf b o (hp.2 p (by simp) b o hb)
  have fq:Ee cx gh st q:=fun b o hb=>hf b o (hp.2 q (by simp) b o hb)
  obtain⟨g2,M2,E2,C2,N2⟩:=N6 (n:=n) hM hr lq fq hu
  exact⟨g2,M2,E2,⟨⟨by simpa only[A4,RdD] using hO,fun e cs he=>by cases he⟩,C2⟩,fun h hh ha=>N2 h hh (hap h ha).2⟩
 |[],_::_,_,_,_,_,_,h,_,_,_=>h.elim
 |⟨_,_⟩::_,[],_,_,_,_,_,h,_,_,_=>h.elim
theorem Amn {cx:Cx} {w:World} {a:Bool} {xs:List Sg} {v:Value} {f:Ac} {gh:Gh} {st:St} {n:Nat} (hM:RM cx gh st w) (hO:OVv f (a,xs) v) (hl:Ba f w) (hf:Ee cx gh st f) (hu: ∀t,n≤t→t<(B9 n xs).2→t∉st.used):
  ∃gh',RM cx gh' (more st n ((B9 n xs).2-n)) w∧Ext gh st gh' (more st n ((B9 n xs).2-n))∧VRv cx gh' (more st n ((B9 n xs).2-n)) a (B9 n xs).1 v∧
   ∀h:Ac,Ee cx gh st h→h.apart f→Ee cx gh' (more st n ((B9 n xs).2-n)) h:=by
 cases a with
 |true=>
  obtain⟨vs,e,hO⟩:=hO
  obtain⟨g,m,ex,c,q⟩:=N6 hM hO hl hf hu
  exact⟨g,m,ex,⟨vs,e,c⟩,q⟩
 |false=>
  obtain⟨g,m,ex,c,q⟩:=N6 hM hO hl hf hu
  exact⟨g,m,ex,c,q⟩
theorem Aca (st:St) (n j k:Nat):more (more st n j) (n+j) k=more st n (j+k):=by
 simp only[more]
 have:List.range' n (j+k)=List.range' n j++List.range' (n+j) k:=by
  rw[List.range'_append_1]
 rw[this]
 simp only[List.reverse_append,List.append_assoc]
theorem Ao3 {cx:Cx} {w:World}: ∀ {rs:List RV} {vs:List Value} {f:Ac} {gh:Gh} {st:St} {n:Nat},RM cx gh st w→OVt f rs vs→Ba f w→Ee cx gh st f→(∀t,n≤t→t<(B5 n rs).2→t∉st.used)→
  ∃gh',RM cx gh' (more st n ((B5 n rs).2-n)) w∧Ext gh st gh' (more st n ((B5 n rs).2-n))∧VRt cx gh' (more st n ((B5 n rs).2-n)) (B5 n rs).1 vs
 |[],[],f,gh,st,n,hM,_,_,_,_=>by
  have:more st n ((B5 n []).2-n)=st:=by simp[B5,Ti]
  rw[this]
  exact⟨gh,hM,Ext.refl _ _,trivial⟩
 |(a,xs)::rs,v::vs,f,gh,st,n,hM,⟨p,q,hp,hO,hr⟩,hl,hf,hu=>by
  have lp:Ba p w:=hl.sub (hp.2 p (by simp))
  have lq:Ba q w:=hl.sub (hp.2 q (by simp))
  have hpq:p.apart q:=(List.pairwise_cons.1 hp.1).1 q (by simp)
  have g1:=J2 n xs
  have g2:=Nf (B9 n xs).2 rs
  have hall:(B5 n ((a,xs)::rs)).2=(B5 (B9 n xs).2 rs).2:=rfl
  obtain⟨h1,M1,E1,C1,N1⟩:=Amn (n:=n) hM hO lp (fun b o hb=>hf b o (hp.2 p (by simp) b o hb)) (fun t a1 a2=>hu t a1 (by rw[hall];omega))
  have hst:more (more st n ((B9 n xs).2-n)) (B9 n xs).2 ((B5 (B9 n xs).2 rs).2-(B9 n xs).2)=more st n ((B5 n ((a,xs)::rs)).2-n):=by
   have:=Aca st n ((B9 n xs).2-n) ((B5 (B9 n xs).2 rs).2-(B9 n xs).2)
   rw[show n+((B9 n xs).2-n)=(B9 n xs).2 by omega]at this
   rw[this,hall]
   congr 1;omega
  obtain⟨h2,M2,E2,C2⟩:=Ao3 (n:=(B9 n xs).2) M1 hr lq (N1 q (fun b o hb=>hf b o (hp.2 q (by simp) b o hb)) (Ac.apart_symm hpq)) (fun t a1 a2 hm=>by
   rcases List.mem_append.1 hm with hm'|hm'
   ·have:=List.mem_range'_1.1 (List.mem_reverse.1 hm');omega
   ·exact hu t (by omega) (by rw[hall];exact a2) hm')
  rw[hst]at M2 E2 C2
  exact⟨h2,M2,E1.trans E2,⟨C1.ext E2,C2⟩⟩
 |[],_::_,_,_,_,_,_,h,_,_,_=>h.elim
 |(_,_)::_,[],_,_,_,_,_,h,_,_,_=>h.elim
theorem Ro {cx:Cx} {g:Gh} {st:St}: ∀ {xs:List Cl} {vs:List Value},CRs cx g st xs vs→RVs g.G (xs.map fun c=>⟨c.sh,c.val⟩) vs
 |[],[],_=>trivial
 |x::xs,v::vs,h=>⟨h.1.1,Ro h.2⟩
 |[],_::_,h=>h.elim
 |_::_,[],h=>h.elim
theorem Ang {ty:Tys} {nt:Nat} {cx:Cx} {g:Gh} {st:St} {a:Act} (hE:Env nt cx g st a): ∀ {xs:List Operand} {ts:List Nat} {vs:List RV},args ty st xs ts=some vs→RVa g.G vs (xs.map a.eval)
 |[],ts,vs,h=>by simp[args]at h;subst h;trivial
 |x::r,ts,vs,h=>by
  simp only[args]at h
  obtain⟨p,hp,h⟩:=Ah h
  split at h
  ·rename_i ag xs
   obtain⟨l,hl,h⟩:=Ah h
   simp at h;subst h
   refine⟨?_,Ang hE hl⟩
   have hv:VRv cx g st ag xs (a.eval x):=Gu hE hp
   cases ag with
   |true=>obtain⟨us,e,hc⟩:=hv;exact⟨us,e,Ro hc⟩
   |false=>exact Ro (xs:=xs) (vs:=[a.eval x]) hv
  ·cases h

theorem As5 {cx:Cx} {w:World} {res:List RV} {v:Value} {f:Ac} {gh:Gh} {st:St} {n:Nat} (hM:RM cx gh st w) (hO:Kx res v f) (hl:Ba f w) (hf:Ee cx gh st f) (hu: ∀t,n≤t→t<(B5 n res).2→t∉st.used):
  ∃gh',RM cx gh' (more st n ((B5 n res).2-n)) w∧Ext gh st gh' (more st n ((B5 n res).2-n))∧VR cx gh' (more st n ((B5 n res).2-n)) (Mi (B5 n res).1) v:=by
 by_cases hone: ∃ag xs,res=[(ag,xs)]
 ·obtain⟨ag,xs,rfl⟩:=hone
  have hd:B5 n [(ag,xs)]=([(ag,(B9 n xs).1)],(B9 n xs).2):=rfl
  rw[hd]at hu ⊢
  obtain⟨g2,M2,E2,C2,_⟩:=Amn (n:=n) hM hO hl hf hu
  exact⟨g2,M2,E2,C2⟩
 ·have hO': ∃us:List Value,v= .tuple us.toArray∧OVt f res us:=by
   cases res with
   |nil=>exact hO
   |cons q rs=>
    cases rs with
    |nil=>exact(hone ⟨q.1,q.2,rfl⟩).elim
    |cons q2 rs=>exact hO
  obtain⟨us,rfl,hO'⟩:=hO'
  obtain⟨g2,M2,E2,C2⟩:=Ao3 (n:=n) hM hO' hl hf hu
  refine⟨g2,M2,E2,?_⟩
  have hr:Mi (B5 n res).1= .tup (B5 n res).1:=by
   cases res with
   |nil=>rfl
   |cons q rs=>
    cases rs with
    |nil=>exact(hone ⟨q.1,q.2,rfl⟩).elim
    |cons q2 rs=>rfl
  rw[hr]
  exact⟨us,rfl,C2⟩
theorem A9o {d:Option Nat} {st st':St} {n m:Nat} (hst:(Ef.toks [] (List.range' n m)).app d st=some st'):st'=more st n m∧ ∀t,n≤t→t<n+m→t∉st.used:=by
 have hst2:ob (N4 st.used (List.range' n m)) (fun used=>some {st with live:=(List.range' n m).reverse++st.live,used:=used})=some st':=hst
 obtain⟨u,hu1,hst2⟩:=Ah hst2
 obtain⟨b1,b2⟩:=Gl hu1
 subst b1
 simp only[Option.some.injEq]at hst2
 exact⟨hst2.symm,fun t t1 t2=>b2 t (List.mem_range'_1.2 ⟨t1,t2⟩)⟩
theorem Om {P:Program} {w:World} {a:Act} {o:Oper} {f:FuncId} {as:Array Operand} {ts:Array TypeId} (ho:o.op= .call {callee:=.value (.func f),args:=as,argTypes:=ts})
  (hf: ∃F,P.funcs[f]? =some F∧(F.name== "runtime.NumGoroutine")=false∧F.body.isSome=true):(execOp a.eval o).run P w= .ok (.enter f (as.toList.map a.eval).toArray) w:=by
 obtain⟨F,hF,hnm,hbd⟩:=hf
 unfold execOp;rw[ho]
 obtain⟨B,hB⟩:=Option.isSome_iff_exists.1 hbd
 have hnm':F.name≠ "runtime.NumGoroutine" :=by simpa using hnm
 simp[resolve,Act.eval,Deferred.ofValue,invoke,callFunc,Sem.run_bind,Sem.run_pure,Result.andThen_ok,program,Sem.run,hF,hnm',hB]
 rw[←Array.toList_map,Array.toArray_toList]
theorem RM.addBox {cx:Cx} {w:World} {g:Gh} {st:St} (h:RM cx g st w) {n:Nat} (hnew:st.has n=false) {xs:List Cl} {vs:List Value} {e:TypeId} {b:Nat} (hb:w.heap[b]? =some (.cells vs.toArray e (0,0))) (hx:CRs cx g st xs vs)
  (hm:E6 cx b) (hbx: ∀k,st.has k=true→g.B k≠b) (hF: ∀t,t∈st.live→g.F t b=none) (hG: ∀o,g.G b o=none):
  RM cx ⟨g.G,fun k=>if k=n then b else g.B k,g.F,g.V,g.S⟩ {st with boxes:=(n,xs)::st.boxes} w∧
  Ext g st ⟨g.G,fun k=>if k=n then b else g.B k,g.F,g.V,g.S⟩ {st with boxes:=(n,xs)::st.boxes}:=by
 have hne: ∀k,st.has k=true→k≠n:=fun k hk e=>by rw[e,hnew]at hk;cases hk
 have hE:Ext g st ⟨g.G,fun k=>if k=n then b else g.B k,g.F,g.V,g.S⟩ {st with boxes:=(n,xs)::st.boxes}:=
  ⟨fun _ _ _ h=>h,fun b hb=>by simp only;rw[if_neg (hne b hb)],fun b hb=>by rw[F5,hb];simp,fun _ h=>h,fun t ht _=>⟨ht,rfl,rfl,rfl,fun _ _ _=>rfl⟩⟩
 have hcase: ∀k,({st with boxes:=(n,xs)::st.boxes}:St).has k=true→k=n∨st.has k=true:=fun k hk=>by
  rw[F5]at hk
  simpa using hk
 refine⟨⟨h.moved,h.lies,h.g0,h.old,?_,?_,?_,h.tok,h.apart,?_,h.nodup,h.new⟩,hE⟩
 ·intro k cs hk
  rw[Jh]at hk
  by_cases hkn:k=n
  ·subst hkn
   simp at hk
   subst hk
   exact⟨vs,e,by simpa using hb,by simpa using hm,hx.ext hE⟩
  ·rw[if_neg hkn]at hk
   obtain⟨us,e',h1,h2,h3⟩:=h.box k cs hk
   refine⟨us,e',?_,?_,h3.ext hE⟩
   ·simp only;rw[if_neg hkn];exact h1
   ·simp only;rw[if_neg hkn];exact h2
 ·intro i j hi hj hij
  simp only at hij
  by_cases h1:i=n
  ·by_cases h2:j=n
   ·rw[h1,h2]
   ·rw[if_pos h1,if_neg h2]at hij
    exact(hbx j ((hcase j hj).resolve_left h2) hij.symm).elim
  ·by_cases h2:j=n
   ·rw[if_neg h1,if_pos h2]at hij
    exact(hbx i ((hcase i hi).resolve_left h1) hij).elim
   ·rw[if_neg h1,if_neg h2]at hij
    exact h.inj i j ((hcase i hi).resolve_left h1) ((hcase j hj).resolve_left h2) hij
 ·intro k o hk
  simp only
  by_cases h1:k=n
  ·rw[if_pos h1];exact hG o
  ·rw[if_neg h1];exact h.boxG k o ((hcase k hk).resolve_left h1)
 ·intro t k ht hk
  simp only
  by_cases h1:k=n
  ·rw[if_pos h1];exact hF t ht
  ·rw[if_neg h1];exact h.tokBox t k ht ((hcase k hk).resolve_left h1)
theorem RM.viewed {cx:Cx} {w w':World} {g:Gh} {st st0:St} (h:RM cx g st w') (h0:RM cx g st0 w) (hlv:st.live=st0.live) (hhas: ∀k,st.has k=true→st0.has k=true) {G':Az} (hl:D8 G' w') (hs:g.G.sub G') (hn: ∀b o x,G' b o=some x→g.G b o=some x∨w.heap.size≤b):
  RM cx ⟨G',g.B,g.F,g.V,g.S⟩ st w'∧Ext g st ⟨G',g.B,g.F,g.V,g.S⟩ st:=by
 have hsame: ∀b o,b<w.heap.size→G' b o=g.G b o:=fun b o hb=>by
  cases e:G' b o with
  |some x=>
   rcases hn b o x e with q|q
   ·exact q.symm
   ·omega
  |none=>
   cases e2:g.G b o with
   |none=>rfl
   |some x=>have:=hs b o x e2;rw[e]at this;cases this
 have hE:Ext g st ⟨G',g.B,g.F,g.V,g.S⟩ st:=⟨hs,fun _ _=>rfl,fun _ h=>h,fun _ h=>h,fun t ht _=>⟨ht,rfl,rfl,rfl,fun b o hsm=>by
  obtain⟨ob,hob⟩:=Option.isSome_iff_exists.1 hsm
  exact hsame b o ((h0.tok t (hlv▸ht)).2.1.lt b ob hob)⟩⟩
 refine⟨⟨h.moved,hl,fun b o v hv=>hs _ _ _ (h.g0 _ _ _ hv),h.old,fun k cs hk=>?_,h.inj,fun k o hk=>?_,h.tok,h.apart,h.tokBox,h.nodup,fun b o v hv=>?_⟩,hE⟩
 ·obtain⟨vs,e,h1,h2,h3⟩:=h.box k cs hk
  exact⟨vs,e,h1,h2,h3.ext hE⟩
 ·obtain⟨cs,hcs⟩:=Fj (hhas k hk)
  obtain⟨vs,e,h1,_,_⟩:=h0.box k cs hcs
  show G' (g.B k) o=none
  rw[hsame _ o (Array.getElem?_eq_some_iff.1 h1).1]
  exact h.boxG k o hk
 ·rcases hn b o v hv with q|q
  ·exact h.new b o v q
  ·exact .inr (.inl (Nat.le_trans h0.moved.size q))
theorem Aqo {cx:Cx} {g:Gh} {st:St}: ∀ {xs:List Sg} {vs:List Value},RVs g.G xs vs→CRs cx g st (xs.map fun s=>⟨s.sh,s.val,Hv s.sh .rd⟩) vs
 |[],[],_=>trivial
 |s::ss,v::vs,h=>by
  refine⟨⟨h.1,?_⟩,Aqo h.2⟩
  obtain⟨s,d⟩:=s
  cases s<;>first|trivial|(intro _ _ e;cases e)
 |[],_::_,h=>h.elim
 |_::_,[],h=>h.elim
theorem A7r {cx:Cx} {g:Gh} {st:St} {r:RV} {v:Value} (h:RVv g.G r v):VRv cx g st r.1 (r.2.map fun s=>⟨s.sh,s.val,Hv s.sh .rd⟩) v:=by
 obtain⟨a,xs⟩:=r
 cases a with
 |true=>obtain⟨vs,e,h⟩:=h;exact⟨vs,e,Aqo h⟩
 |false=>exact Aqo (vs:=[v]) h
theorem A0b {cx:Cx} {g:Gh} {st:St}: ∀ {rs:List RV} {vs:List Value},RVa g.G rs vs→VRt cx g st (Aup rs) vs
 |[],[],_=>trivial
 |r::rs,v::vs,h=>⟨A7r h.1,A0b h.2⟩
 |[],_::_,h=>h.elim
 |_::_,[],h=>h.elim
theorem A3h {cx:Cx} {g:Gh} {st:St} {rs:List RV} {v:Value} (h:Qh g.G rs v):VR cx g st (Mi (Aup rs)) v:=by
 match rs,h with
 |[],h=>obtain⟨vs,e,h⟩:=h;exact⟨vs,e,A0b h⟩
 |[r],h=>exact A7r h
 |r::s::t,h=>obtain⟨vs,e,h⟩:=h;exact⟨vs,e,A0b h⟩
theorem RM.boxTurn {cx:Cx} {w w':World} {g:Gh} {st:St} (h:RM cx g st w) {b:Nat} {cs:List Cl} (hc:st.bx b=some cs) {o0:Obj} (hm:Moved (Ac.one (g.B b) o0) w w') {xs:List Cl} {vs:List Value} {e:TypeId}
  (hv:w'.heap[g.B b]? =some (.cells vs.toArray e (0,0))) (hx:CRs cx g st xs vs):
  RM cx g {st with boxes:=(b,xs)::st.boxes} w'∧Ext g st g {st with boxes:=(b,xs)::st.boxes}:=by
 have hlt:st.has b=true:=Fk hc
 have hhas: ∀k,({st with boxes:=(b,xs)::st.boxes}:St).has k=true→st.has k=true:=fun k hk=>by
  rw[F5]at hk
  by_cases hkb:k=b
  ·rw[hkb];exact hlt
  ·simpa [hkb] using hk
 have hE:Ext g st g {st with boxes:=(b,xs)::st.boxes}:=
  ⟨fun _ _ _ h=>h,fun _ _=>rfl,fun k hk=>by rw[F5,hk];simp,fun _ h=>h,fun t ht _=>⟨ht,rfl,rfl,rfl,fun _ _ _=>rfl⟩⟩
 have hblk: ∀k ob,k≠g.B b→w.heap[k]? =some ob→w'.heap[k]? =some ob:=fun k ob hk ho=>by
  rw[hm.block k (Array.getElem?_eq_some_iff.1 ho).1 (by simp[Ac.one,hk])];exact ho
 obtain⟨vs',e',h1,h2,h3⟩:=h.box b cs hc
 refine⟨⟨?_,?_,h.g0,h.old,?_,fun i j hi hj=>h.inj i j (hhas i hi) (hhas j hj),fun k o hk=>h.boxG k o (hhas k hk),?_,h.apart,fun t k ht hk=>h.tokBox t k ht (hhas k hk),h.nodup,h.new⟩,hE⟩
 ·refine⟨hm.os.trans h.moved.os,hm.tape.trans h.moved.tape,hm.output.trans h.moved.output,Nat.le_trans h.moved.size hm.size,fun k hk hf=>?_⟩
  rw[hm.block k (Nat.lt_of_lt_of_le hk h.moved.size) ?_,h.moved.block k hk hf]
  simp only[Ac.one]
  rw[if_neg]
  intro hkb
  subst hkb
  rcases h2 with q|q
  ·omega
  ·rw[hf]at q;cases q
 ·intro c o v hv'
  have hne:c≠g.B b:=fun e=>by rw[e,h.boxG b o hlt]at hv';cases hv'
  have h1:=h.lies c o v hv'
  unfold World.cell? at h1 ⊢
  simp only at h1 ⊢
  cases hq:w.heap[c]? with
  |none=>rw[hq]at h1;cases h1
  |some ob=>rw[hblk c ob hne hq];rw[hq]at h1;exact h1
 ·intro k cs' hk'
  rw[Jh]at hk'
  by_cases hkb:k=b
  ·subst hkb
   simp at hk'
   subst hk'
   exact⟨vs,e,hv,h2,hx.ext hE⟩
  ·rw[if_neg hkb]at hk'
   obtain⟨vs2,e2,g1,g2,g3⟩:=h.box k cs' hk'
   exact⟨vs2,e2,hblk _ _ (fun he=>hkb (h.inj k b (Fk hk') hlt he)) g1,g2,g3.ext hE⟩
 ·intro t ht
  obtain⟨g1,g2,g3⟩:=h.tok t ht
  refine⟨g1,fun k o hk'=>hblk k o (fun e=>by rw[e,h.tokBox t b ht hlt]at hk';cases hk') (g2 k o hk'),g3⟩
def VRl (cx:Cx) (g:Gh) (st:St):List PV→List Value→Prop
 |[],[]=>True
 |p::ps,v::vs=>VR cx g st p v∧VRl cx g st ps vs
 |_,_=>False
theorem Afo {ty:Tys} {nt:Nat} {cx:Cx} {g:Gh} {st:St} {a:Act} (hE:Env nt cx g st a): ∀ {xs:List Operand} {ts:List Nat} {ps:List PV},Kp ty st xs ts=some ps→VRl cx g st ps (xs.map a.eval)
 |[],ts,ps,h=>by simp[Kp]at h;subst h;trivial
 |x::r,ts,ps,h=>by
  simp only[Kp]at h
  obtain⟨p,hp,h⟩:=Ah h
  obtain⟨l,hl,h⟩:=Ah h
  simp at h;subst h
  exact⟨Gu hE hp,Afo hE hl⟩
theorem A7s {cx:Cx} {g:Gh} {st:St} {a:Bool} {xs:List Cl} {v:Value} (h:VRv cx g st a xs v):RVv g.G (strip (a,xs)) v:=by
 cases a with
 |true=>obtain⟨us,e,hc⟩:=h;exact⟨us,e,Ro hc⟩
 |false=>exact Ro (xs:=xs) (vs:=[v]) h
theorem A0c {cx:Cx} {g:Gh} {st:St} {b:Nat} {vs0:List Value}: ∀ {ms:List Nat} {ps:List PV} {vals:List Value} {rs:List RV},(ms.all fun m=>Nat.beq m 0)=true→VRl cx g st ps vals→Co st ms ps=some rs→BVa g.G b vs0 ms rs vals
 |ms,[],[],rs,_,_,h=>by simp[Co]at h;subst h;trivial
 |ms,p::ps,v::vals,rs,hz,hv,h=>by
  have hh:ms.headD 0=0:=by
   cases ms with
   |nil=>rfl
   |cons m r=>simp only[List.all_cons,Bool.and_eq_true]at hz;exact Nat.eq_of_beq_eq_true hz.1
  have ht:(ms.tail.all fun m=>Nat.beq m 0)=true:=by
   cases ms with
   |nil=>rfl
   |cons m r=>simp only[List.all_cons,Bool.and_eq_true]at hz;exact hz.2
  cases p with
  |v a xs=>
   simp only[Co,hh]at h
   obtain⟨l,hl,h⟩:=Ah (show ob (Co st ms.tail ps) (fun l=>some (strip (a,xs)::l))=some rs from h)
   simp at h;subst h
   refine⟨?_,A0c ht hv.2 hl⟩
   rw[if_neg (by omega)]
   exact A7s hv.1
  |box b o=>
   cases o with
   |zero=>
    have h':(none:Option (List RV))=some rs:=by rw[←h];simp only[Co,hh];rfl
    cases h'
   |succ o=>simp[Co]at h
  |any=>simp[Co]at h
  |el _ _ _=>simp[Co]at h
  |tup _=>simp[Co]at h
 |_,[],_::_,_,_,h,_=>h.elim
 |_,_::_,[],_,_,h,_=>h.elim
theorem Aut {cx:Cx} {g:Gh} {st:St} {b:Nat} {cs:List Cl} {vs0:List Value} (hb:st.bx b=some cs) (hcs:CRs cx g st cs vs0): ∀ {ms:List Nat} {ps:List PV} {vals:List Value} {rs:List RV},E0 ms ps=some b→VRl cx g st ps vals→Co st ms ps=some rs→BVa g.G (g.B b) vs0 ms rs vals
 |ms,[],[],rs,hx,_,h=>by simp[E0]at hx
 |ms,p::ps,v::vals,rs,hx,hv,h=>by
  cases p with
  |v a xs=>
   simp only[E0]at hx
   cases hz:Nat.beq (ms.headD 0) 0 with
   |false=>rw[hz]at hx;cases hx
   |true=>
    rw[hz]at hx
    have hh:=Nat.eq_of_beq_eq_true hz
    simp only[Co,hh]at h
    obtain⟨l,hl,h⟩:=Ah (show ob (Co st ms.tail ps) (fun l=>some (strip (a,xs)::l))=some rs from h)
    simp at h;subst h
    refine⟨?_,Aut hb hcs hx hv.2 hl⟩
    rw[if_neg (by omega)]
    exact A7s hv.1
  |box b' o=>
   cases o with
   |zero=>
    simp only[E0]at hx
    cases hz:Nat.beq (ms.headD 0) 3 with
    |false=>rw[hz]at hx;cases hx
    |true=>
     rw[hz]at hx
     obtain⟨hall,hx⟩:=A2 hx
     simp at hx;subst hx
     have hh:=Nat.eq_of_beq_eq_true hz
     simp only[Co,hz,cond_true,hb]at h
     obtain⟨l,hl,h⟩:=Ah (show ob (Co st ms.tail ps) (fun l=>some (strip (true,cs)::l))=some rs from h)
     simp at h;subst h
     refine⟨?_,A0c hall hv.2 hl⟩
     rw[if_pos hh]
     exact⟨hv.1.2,Ro hcs⟩
   |succ o=>simp[E0]at hx
  |any=>simp[E0]at hx
  |el _ _ _=>simp[E0]at hx
  |tup _=>simp[E0]at hx
 |_,[],_::_,_,_,h,_=>h.elim
 |_,_::_,[],_,_,h,_=>h.elim
theorem CR.ro0 {cx:Cx} {g:Gh} {st:St} {x:Cl} {v:Value} (hr:roC x=true) (h:CR cx g st x v):CR cx ⟨cx.G0,g.B,g.F,g.V,g.S⟩ st x v:=by
 obtain⟨sh,val,tok⟩:=x
 obtain⟨h1,h2⟩:=h
 have sc:Ds sh=false→RdD cx.G0 sh val v:=fun hs=>by
  cases sh with
  |sl e cs=>cases hs
  |int k=>simpa only[RdD] using h1
  |bool=>simpa only[RdD] using h1
  |str=>simpa only[RdD] using h1
  |junk=>simpa only[RdD] using h1
 cases tok with
 |ro=>exact⟨h2,h2⟩
 |pin j=>exact⟨h2.1,h2⟩
 |nil=>
  refine⟨?_,h2⟩
  cases hs:Ds sh with
  |false=>exact sc hs
  |true=>
   cases sh with
   |sl e cs=>obtain⟨a,ha⟩:=h2 e cs rfl;exact Aml h1 ha _
   |_=>cases hs
 |rd=>exact⟨sc (by simpa [roC] using hr),trivial⟩
 |_=>cases hr
theorem CRs.ro0 {cx:Cx} {g:Gh} {st:St}: ∀ {xs:List Cl} {vs:List Value},xs.all roC=true→CRs cx g st xs vs→CRs cx ⟨cx.G0,g.B,g.F,g.V,g.S⟩ st xs vs
 |[],[],_,_=>trivial
 |x::xs,v::vs,hr,h=>by
  simp only[List.all_cons,Bool.and_eq_true]at hr
  exact⟨h.1.ro0 hr.1,CRs.ro0 hr.2 h.2⟩
 |[],_::_,_,h=>h.elim
 |_::_,[],_,h=>h.elim
theorem VRl.ro0 {cx:Cx} {g:Gh} {st:St}: ∀ {ps:List PV} {vs:List Value},ps.all roP=true→VRl cx g st ps vs→VRl cx ⟨cx.G0,g.B,g.F,g.V,g.S⟩ st ps vs
 |[],[],_,_=>trivial
 |p::ps,v::vs,hr,h=>by
  simp only[List.all_cons,Bool.and_eq_true]at hr
  refine⟨?_,VRl.ro0 hr.2 h.2⟩
  cases p with
  |v a xs=>cases a with
   |true=>obtain⟨us,e,hc⟩:=h.1;exact⟨us,e,CRs.ro0 hr.1 hc⟩
   |false=>exact CRs.ro0 (xs:=xs) (vs:=[v]) hr.1 h.1
  |box b o=>exact h.1
  |any=>cases hr.1
  |el _ _ _=>cases hr.1
  |tup _=>cases hr.1
 |[],_::_,_,h=>h.elim
 |_::_,[],_,h=>h.elim
theorem RVs.sub {G H:Az} (hs:G.sub H): ∀ {xs:List Sg} {vs:List Value},RVs G xs vs→RVs H xs vs
 |[],[],_=>trivial
 |x::xs,v::vs,h=>⟨RdD.sub hs _ _ _ h.1,RVs.sub hs h.2⟩
 |[],_::_,h=>h.elim
 |_::_,[],h=>h.elim
theorem RVv.sub {G H:Az} (hs:G.sub H) {r:RV} {v:Value} (h:RVv G r v):RVv H r v:=by
 obtain⟨a,xs⟩:=r
 cases a with
 |true=>obtain⟨vs,e,h⟩:=h;exact⟨vs,e,RVs.sub hs h⟩
 |false=>exact RVs.sub (vs:=[v]) hs h
theorem RVa.sub {G H:Az} (hs:G.sub H): ∀ {rs:List RV} {vs:List Value},RVa G rs vs→RVa H rs vs
 |[],[],_=>trivial
 |r::rs,v::vs,h=>⟨RVv.sub hs h.1,RVa.sub hs h.2⟩
 |[],_::_,h=>h.elim
 |_::_,[],h=>h.elim
theorem Qh.sub {G H:Az} (hs:G.sub H) {rs:List RV} {v:Value} (h:Qh G rs v):Qh H rs v:=by
 match rs,h with
 |[],h=>obtain⟨vs,e,h⟩:=h;exact⟨vs,e,RVa.sub hs h⟩
 |[r],h=>exact RVv.sub hs h
 |r::s::t,h=>obtain⟨vs,e,h⟩:=h;exact⟨vs,e,RVa.sub hs h⟩
theorem A0d {cx:Cx} {g:Gh} {st:St} {pinned ro:Bool}: ∀ {cs cs':List Cl} {new:List Sg} {vs0 vs1:List Value},CRs cx g st cs vs0→RVs g.G new vs1→(ro=true→RVs cx.G0 new vs1)→merge pinned ro cs new=some cs'→
  (pinned=true→ ∀(j:Nat) (s:Sg),new[j]? =some s→Ds s.sh=true→vs1[j]? =vs0[j]?)→CRs cx g st cs' vs1
 |[],cs',[],vs0,vs1,h0,h1,_,h,_=>by
  simp[merge]at h;subst h
  cases vs1 with
  |nil=>trivial
  |cons _ _=>exact h1.elim
 |x::xs,cs',y::ys,vs0,vs1,h0,h1,h9,h,hp=>by
  simp only[merge]at h
  obtain⟨r,hr,h⟩:=Ah h
  cases vs0 with
  |nil=>exact h0.elim
  |cons v0 vs0=>
  cases vs1 with
  |nil=>exact h1.elim
  |cons v1 vs1=>
  have ih:=A0d h0.2 h1.2 (fun hq=>(h9 hq).2) hr (fun hpp j s hj hs=>by have:=hp hpp (j+1) s (by simpa using hj) hs;simpa using this)
  obtain⟨s,d⟩:=y
  cases s with
  |sl e cs=>
   simp only[Option.some.injEq]at h
   subst h
   cases pinned with
   |true=>
    have:=hp rfl 0 _ rfl rfl
    simp at this
    subst this
    exact⟨h0.1,ih⟩
   |false=>
    refine⟨⟨h1.1,?_⟩,ih⟩
    cases ro with
    |true=>exact(h9 rfl).1
    |false=>trivial
  |int k=>simp only[Option.some.injEq]at h;subst h;exact⟨⟨h1.1,fun _ _ e=>by cases e⟩,ih⟩
  |bool=>simp only[Option.some.injEq]at h;subst h;exact⟨⟨h1.1,fun _ _ e=>by cases e⟩,ih⟩
  |str=>simp only[Option.some.injEq]at h;subst h;exact⟨⟨h1.1,fun _ _ e=>by cases e⟩,ih⟩
  |junk=>simp only[Option.some.injEq]at h;subst h;exact⟨⟨h1.1,fun _ _ e=>by cases e⟩,ih⟩
 |[],_,_::_,_,_,_,_,_,h,_=>by simp[merge]at h
 |_::_,_,[],_,_,_,_,_,h,_=>by simp[merge]at h
section
variable {P:Program} {g:Cfg} (hC:CfgOk P g) {cx:Cx} {gh:Gh} {st:St} {a:Act} {w:World} {nt:Nat} (hM:RM cx gh st w) (hE:Env nt cx gh st a)
 {o:Oper} {ρ:Type} {k:PV→Ef→Option ρ} {r:ρ} {next:Act→World→Prop} {Q:Exit→Act→World→Prop}
 (hk: ∀pv ef,k pv ef=some r→ ∃st',ef.app o.dst st=some st')
 (hn: ∀gh' pv ef st' v w',k pv ef=some r→ef.app o.dst st=some st'→RM cx gh' st' w'→Ext gh st gh' st'→st'.env=st.env→VR cx gh' st' pv v→next (a.put o.dst v) w')
include hC hM hE hk hn
theorem A9p {f:FuncId} {as:Array Operand} {ts:Array TypeId} (ho:o.op= .call {callee:=.value (.func f),args:=as,argTypes:=ts}) (hkd:g.kind f= .plain) (h:(ob (args g.ty st as.toList ts.toList) fun vs=>(g.ctr f vs).run fun res=>
  ob o.dst fun n=>let x:=B5 (64*n) res.1
  k (Mi x.1) (.toks [] (List.range' (64*n) (x.2-64*n))))=some r):o.wp P a w next Q:=by
 obtain⟨vs,hvs,h⟩:=Ah h
 obtain⟨res,hres,h⟩:=Tree.run_some h
 obtain⟨n,hdn,h⟩:=Ah h
 have hargs:=Ang hE hvs
 have hdo:=hC.ctr f
 rw[hkd]at hdo
 have hcall:=hdo vs res (as.toList.map a.eval) w gh.G hres hM.lies hargs
 unfold Oper.wp
 rw[Om ho (hC.fn f vs _ hres)]
 refine hcall.mono ?_
 rintro e w' ⟨v,f',rfl,hG,hl,hfr,hO⟩
 show next (a.put o.dst v) w'
 have M1:=hM.world hG
 have hfresh:Ee cx gh st f':=fun b ob hb=>by
  have hge:=hfr b ob hb
  obtain⟨a1,a2,a3⟩:=Dv hM hge
  exact⟨a1,a2,a3,fun o'=>Ol hM.lies hge o'⟩
 obtain⟨st',hst⟩:=hk _ _ h
 obtain⟨e1,e2⟩:=A9o hst
 have hge:=Nf (64*n) res.1
 obtain⟨g2,M2,E2,C2⟩:=As5 (n:=64*n) M1 hO hl hfresh (fun t t1 t2=>e2 t t1 (by omega))
 subst e1
 exact hn g2 _ _ _ v w' h hst M2 E2 rfl C2
theorem A9q {f:FuncId} {as:Array Operand} {ts:Array TypeId} (ho:o.op= .call {callee:=.value (.func f),args:=as,argTypes:=ts}) (hkd:g.kind f= .ret) (h:(ob (args g.ty st as.toList ts.toList) fun vs=>(g.ctr f vs).run fun res=>ob o.dst fun n=>match res.1 with
   |[(_,ss)]=>k (.box n 0) (.newBox (ss.map fun s=>⟨s.sh,s.val,Hv s.sh .rd⟩))
   |_=>none)=some r):o.wp P a w next Q:=by
 obtain⟨vs,hvs,h⟩:=Ah h
 obtain⟨res,hres,h⟩:=Tree.run_some h
 obtain⟨n,hdn,h⟩:=Ah h
 split at h
 ·rename_i ag ss hr1
  have hargs:=Ang hE hvs
  have hdo:=hC.ctr f
  rw[hkd]at hdo
  have hcall:=hdo vs res (as.toList.map a.eval) w gh.G hres hM.lies hargs
  unfold Oper.wp
  rw[Om ho (hC.fn f vs _ hres)]
  refine hcall.mono ?_
  rintro e w' ⟨b,us,ty,ag',rr,rfl,hG,hge,hblk,hr2,hcells⟩
  show next (a.put o.dst _) w'
  rw[hr1]at hr2
  simp only[List.cons.injEq,Prod.mk.injEq,and_true]at hr2
  obtain⟨rfl,rfl⟩:=hr2
  have M1:=hM.world hG
  obtain⟨st',hst⟩:=hk _ _ h
  obtain⟨hnew,hst2⟩:=Qi hdn hst
  obtain⟨a1,a2,a3⟩:=Dv hM hge
  have hcr:CRs cx gh st (ss.map fun s=>⟨s.sh,s.val,Hv s.sh .rd⟩) us:=by
   clear h hres hr1 hst hst2 hblk
   induction ss generalizing us with
   |nil=>cases us with
    |nil=>trivial
    |cons _ _=>exact hcells.elim
   |cons s ss ih=>cases us with
    |nil=>exact hcells.elim
    |cons u us=>
     refine⟨⟨hcells.1,?_⟩,ih us hcells.2⟩
     obtain⟨s,d⟩:=s
     cases s<;>first|trivial|(intro _ _ e;cases e)
  obtain⟨M2,E2⟩:=M1.addBox hnew hblk hcr a1 a3 a2 (fun o=>Ol hM.lies hge o)
  subst hst2
  exact hn _ _ _ _ _ w' h hst M2 E2 rfl (show VR cx _ _ (.box n 0) _ from⟨by rw[F5];simp,by simp⟩)
 ·cases h
theorem A9r {f:FuncId} {as:Array Operand} {ts:Array TypeId} (ho:o.op= .call {callee:=.value (.func f),args:=as,argTypes:=ts}) (hkd:g.kind f= .view) (h:(ob (args g.ty st as.toList ts.toList) fun vs=>(g.ctr f vs).run fun res=>
  k (Mi (Aup res.1)) .none)=some r):o.wp P a w next Q:=by
 obtain⟨vs,hvs,h⟩:=Ah h
 obtain⟨res,hres,h⟩:=Tree.run_some h
 have hargs:=Ang hE hvs
 have hdo:=hC.ctr f
 rw[hkd]at hdo
 have hcall:=hdo vs res (as.toList.map a.eval) w gh.G hres hM.lies hargs
 unfold Oper.wp
 rw[Om ho (hC.fn f vs _ hres)]
 refine hcall.mono ?_
 rintro e w' ⟨v,G',rfl,hG,hl,hsub,hnew,hR⟩
 show next (a.put o.dst v) w'
 obtain⟨M2,E2⟩:=(hM.world hG).viewed hM rfl (fun _ h=>h) hl hsub hnew
 exact hn _ _ _ _ v w' h rfl M2 E2 rfl (A3h hR)
theorem A9s {f:FuncId} {as:Array Operand} {ts:Array TypeId} {ms:List Nat} {pinned own:Bool} (ho:o.op= .call {callee:=.value (.func f),args:=as,argTypes:=ts}) (hkd:g.kind f= .box ms pinned own)
  (h:(ob (Kp g.ty st as.toList ts.toList) fun ps=>ob (Co st ms ps) fun vs=>ob (E0 ms ps) fun b=>ob (st.bx b) fun cs=>(g.ctr f vs).run fun res=>
   match res.2 with
   |[(_,new)]=>ob (merge pinned (Asw cs ps) cs new) fun cs'=>ob o.dst fun n=>let x:=B5 (64*n) res.1
    k (cond own (Mi x.1) (Mi (Aup res.1))) (.bx b cs' (cond own (List.range' (64*n) (x.2-64*n)) []))
   |_=>none)=some r):o.wp P a w next Q:=by
 obtain⟨ps,hps,h⟩:=Ah h
 obtain⟨vs,hvs,h⟩:=Ah h
 obtain⟨b,hbx,h⟩:=Ah h
 obtain⟨cs,hcs,h⟩:=Ah h
 obtain⟨res,hres,h⟩:=Tree.run_some h
 split at h
 ·rename_i ag new hr2
  obtain⟨cs',hmg,h⟩:=Ah h
  obtain⟨n,hdn,h⟩:=Ah h
  obtain⟨vs0,e0,k1,k2,k3⟩:=hM.box b cs hcs
  have hG9: ∃G9:Az,G9.sub gh.G∧(Asw cs ps=true→G9=cx.G0)∧BVa G9 (gh.B b) vs0 ms vs (as.toList.map a.eval):=by
   cases hro:Asw cs ps with
   |false=>exact⟨gh.G,fun _ _ _ h=>h,fun h=>(by cases h),Aut hcs k3 hbx (Afo hE hps) hvs⟩
   |true=>
    unfold Asw at hro
    simp only[Bool.and_eq_true]at hro
    exact⟨cx.G0,hM.g0,fun _=>rfl,Aut (g:=⟨cx.G0,gh.B,gh.F,gh.V,gh.S⟩) hcs (CRs.ro0 hro.1 k3) hbx (VRl.ro0 hro.2 (Afo hE hps)) hvs⟩
  obtain⟨G9,hG1,hG2,hbva⟩:=hG9
  have hdo:=hC.ctr f
  rw[hkd]at hdo
  have hcall:=hdo vs res (as.toList.map a.eval) w G9 (gh.B b) vs0 e0 hres (fun b o v h=>hM.lies b o v (hG1 b o v h)) (fun o=>by
   cases hg9:G9 (gh.B b) o with
   |none=>rfl
   |some x=>have:=hG1 _ _ _ hg9;rw[hM.boxG b o (Fk hcs)]at this;cases this) k1 hbva
  unfold Oper.wp
  rw[Om ho (hC.fn f vs _ hres)]
  refine hcall.mono ?_
  rintro e w' ⟨v,vs1,e1,ag',new',rfl,hmv,hown,hvw,hblk,hr2',hnew,hpin⟩
  show next (a.put o.dst v) w'
  rw[hr2]at hr2'
  simp only[List.cons.injEq,Prod.mk.injEq,and_true]at hr2'
  obtain⟨rfl,rfl⟩:=hr2'
  have hcr:=A0d k3 (RVs.sub hG1 hnew) (fun hq=>hG2 hq▸hnew) hmg hpin
  obtain⟨M1,E1⟩:=hM.boxTurn hcs hmv hblk hcr
  cases own with
  |true=>
  obtain⟨f',hl,hfr,hO⟩:=hown rfl
  simp only[cond_true]at h
  obtain⟨st',hst⟩:=hk _ _ h
  have hst0:=hst
  obtain⟨_,_,hst0⟩:=Ah hst0
  obtain⟨u,hu1,hst0⟩:=Ah hst0
  obtain⟨b1,b2⟩:=Gl hu1
  subst b1
  simp only[Option.some.injEq]at hst0
  have hge:=Nf (64*n) res.1
  have hfresh:Ee cx gh {st with boxes:=(b,cs')::st.boxes} f':=fun c ob hb=>by
   have hge:=hfr c ob hb
   obtain⟨a1,a2,a3⟩:=Dv hM hge
   refine⟨a1,a2,fun k hk=>a3 k ?_,fun o'=>Ol hM.lies hge o'⟩
   rw[F5]at hk
   by_cases hkb:k=b
   ·subst hkb;exact Fk hcs
   ·simpa [hkb] using hk
  obtain⟨g2,M2,E2,C2⟩:=As5 (n:=64*n) M1 hO hl hfresh (fun t t1 t2=>b2 t (List.mem_range'_1.2 ⟨t1,by omega⟩))
  subst hst0
  exact hn g2 _ _ _ v w' h hst M2 (E1.trans E2) rfl C2
  |false=>
  obtain⟨G2,hl2,hs2,hn2,hR⟩:=hvw rfl
  simp only[cond_false]at h
  have hag: ∀c o x y,gh.G c o=some x→G2 c o=some y→x=y:=fun c o x y h1 h2=>by
   have a1:=M1.lies c o x h1
   have a2:=hl2 c o y h2
   rw[a1]at a2;exact Option.some.inj a2
  have hs3:gh.G.sub fun c o=>(gh.G c o).or (G2 c o):=fun c o x hx=>by show(gh.G c o).or (G2 c o)=some x;rw[hx];rfl
  have hs4:G2.sub fun c o=>(gh.G c o).or (G2 c o):=fun c o y hy=>by
   cases hx:gh.G c o with
   |none=>show(gh.G c o).or (G2 c o)=some y;rw[hx];exact hy
   |some x=>show(gh.G c o).or (G2 c o)=some y;rw[hx,hag c o x y hx hy];rfl
  have hcase: ∀c o x,(gh.G c o).or (G2 c o)=some x→gh.G c o=some x∨(gh.G c o=none∧G2 c o=some x):=fun c o x hx=>by
   cases hg:gh.G c o with
   |none=>rw[hg]at hx;exact .inr ⟨rfl,hx⟩
   |some z=>rw[hg]at hx;exact .inl hx
  obtain⟨M2,E2⟩:=M1.viewed hM rfl (fun k hk=>by
   rw[F5]at hk
   by_cases hkb:k=b
   ·subst hkb;exact Fk hcs
   ·simpa [hkb] using hk) (G':=fun c o=>(gh.G c o).or (G2 c o)) (fun c o x hx=>by
   rcases hcase c o x hx with q|⟨_,q⟩
   ·exact M1.lies c o x q
   ·exact hl2 c o x q) hs3 (fun c o x hx=>by
   rcases hcase c o x hx with q|⟨q0,q⟩
   ·exact .inl q
   ·rcases hn2 c o x q with q|q
    ·have:=hG1 c o x q;rw[q0]at this;cases this
    ·exact .inr q)
  have hst:(Ef.bx b cs' []).app o.dst st=some {st with boxes:=(b,cs')::st.boxes}:=by
   simp only[Ef.app,hcs,N4,ob];rfl
  exact hn _ _ _ _ v w' h hst M2 (E1.trans E2) rfl (A3h (Qh.sub hs4 hR))
 ·cases h
end
end Go.Proofs.YtmhhajdeafijmaaGreat
namespace Go.Proofs.YtmhhajdeafijmaaGreat
open Go.RowKit
set_option linter.unusedVariables false
set_option linter.unusedSectionVars false
set_option linter.unusedSimpArgs false

theorem RdD.scalar {G H:Az} {s:Sh} {d:s.den} {v:Value} (hs:Ds s=false) (h:RdD G s d v):RdD H s d v:=by
 cases s with
 |sl e cs=>cases hs
 |int k=>simpa only[RdD] using h
 |bool=>simpa only[RdD] using h
 |str=>simpa only[RdD] using h
 |junk=>simpa only[RdD] using h
theorem Bcv {s:Sh} (hs:Ds s=false): ∀e cs,s≠ .sl e cs:=fun e cs he=>by rw[he]at hs;cases hs
theorem Acb {t:Nat} {s:Sg}: ∀ {us:List (Nat×Sg)},Dh t us=some s→(t,s)∈us
 |[],h=>by cases h
 |(u,x)::r,h=>by
  simp only[Dh]at h
  cases hb:Nat.beq t u with
  |true=>
   rw[hb]at h
   simp at h;subst h
   rw[Nat.eq_of_beq_eq_true hb];simp
  |false=>
   rw[hb]at h
   exact List.mem_cons_of_mem _ (Acb h)
theorem Ait {t:Nat}: ∀ {us:List (Nat×Sg)},Dh t us=none→ ∀u,u∈us→u.1≠t
 |[],_,u,hu=>by cases hu
 |(v,x)::r,h,u,hu=>by
  simp only[Dh]at h
  cases hb:Nat.beq t v with
  |true=>rw[hb]at h;cases h
  |false=>
   rw[hb]at h
   rcases List.mem_cons.1 hu with e|hu'
   ·subst e
    intro he
    simp only at he
    rw[he]at hb
    rw[Nat.beq_refl]at hb;cases hb
   ·exact Ait h u hu'
theorem Tj (f:List Cl→List Cl): ∀(l:List (Nat×List Cl)) (i:Nat),B7 i (l.map fun b=>(b.1,f b.2))=(B7 i l).map f
 |[],i=>rfl
 |(j,x)::r,i=>by
  simp only[List.map_cons,B7]
  cases Nat.beq i j with
  |true=>rfl
  |false=>exact Tj f r i
theorem Aa5 (f:PV→PV) (hf:f .any= .any): ∀(e:List (Nat×PV)) (i:Nat),look i (e.map fun p=>(p.1,f p.2))=f (look i e)
 |[],i=>hf.symm
 |(j,x)::r,i=>by
  simp only[List.map_cons]
  rw[E4,E4]
  by_cases h:i=j
  ·rw[if_pos h,if_pos h]
  ·rw[if_neg h,if_neg h];exact Aa5 f hf r i
def G6 (st:St) (live:List Nat) (us:List (Nat×Sg)):St:=
 {env:=st.env.map fun p=>(p.1,Nv live us p.2),boxes:=st.boxes.map fun b=>(b.1,b.2.map (Hs live us)),live:=live,used:=st.used}
theorem A7t (st:St) (live:List Nat) (us:List (Nat×Sg)) (i:Nat):(G6 st live us).get i=Nv live us (st.get i):=Aa5 _ rfl _ _
theorem A0e (st:St) (live:List Nat) (us:List (Nat×Sg)) (k:Nat):(G6 st live us).bx k=(st.bx k).map fun cs=>cs.map (Hs live us):=Tj _ _ _
theorem On (st:St) (live:List Nat) (us:List (Nat×Sg)) (k:Nat):(G6 st live us).has k=st.has k:=by unfold St.has;rw[A0e];simp
def Aiu (cx:Cx) (live:List Nat) (F:Nat→Ac) (V:Nat→Value) (S:Nat→Nat) (b o:Nat) (x:Value):Prop:=
 cx.G0 b o=some x∨ ∃t,t∈live∧Cj (F t) b o=some x∧ ∀n cap,V t= .slice (some ⟨b,0,none⟩) n cap→o<n*S t
open Classical in
noncomputable def El (cx:Cx) (live:List Nat) (F:Nat→Ac) (V:Nat→Value) (S:Nat→Nat):Az:=fun b o=>
 if h: ∃x,Aiu cx live F V S b o x then some h.choose else none
theorem Ij {cx:Cx} {live:List Nat} {F:Nat→Ac} {V:Nat→Value} {S:Nat→Nat} {b o:Nat} {x:Value} (h:El cx live F V S b o=some x):Aiu cx live F V S b o x:=by
 unfold El at h
 split at h
 ·rename_i hx
  simp at h;subst h
  exact hx.choose_spec
 ·cases h
theorem Aiv {cx:Cx} {live:List Nat} {F:Nat→Ac} {V:Nat→Value} {S:Nat→Nat} {w:World} (hl: ∀b o x,Aiu cx live F V S b o x→w.cell? ⟨b,o,none⟩=some x) {b o:Nat} {x:Value} (h:Aiu cx live F V S b o x):El cx live F V S b o=some x:=by
 unfold El
 have hx: ∃x,Aiu cx live F V S b o x:=⟨x,h⟩
 rw[dif_pos hx]
 have h1:=hl b o _ hx.choose_spec
 rw[hl b o x h]at h1
 rw[h1]
structure Turn (cx:Cx) (g:Gh) (st:St) (w w':World) (live':List Nat) (us:List (Nat×Sg)) (F':Nat→Ac):Prop where
 moved:Moved cx.f0 cx.w0 w'
 sub: ∀t,t∈live'→t∈st.live
 nodup:live'.Nodup
 keys: ∀u,u∈us→u.1∈live'
 keep: ∀t,t∈live'→Dh t us=none→F' t=g.F t∧Ba (g.F t) w'
 new: ∀t s,Dh t us=some s→Ba (F' t) w'∧(∀b o,F' t b=some o→E6 cx b)∧A4 (F' t) s.sh s.val (g.V t)∧Hr s.sh=g.S t∧Ds s.sh=true
 apart: ∀t u,t∈live'→u∈live'→t≠u→(F' t).apart (F' u)
 tokBox: ∀t k,t∈live'→st.has k=true→F' t (g.B k)=none
 box: ∀k,st.has k=true→w'.heap[g.B k]? =w.heap[g.B k]?
section
variable {cx:Cx} {g:Gh} {st:St} {w w':World} {live':List Nat} {us:List (Nat×Sg)} {F':Nat→Ac} (h:RM cx g st w) (T:Turn cx g st w w' live' us F')
include h T
theorem Turn.liesF {t:Nat} (ht:t∈live'):Ba (F' t) w'∧ ∀b o,F' t b=some o→E6 cx b:=by
 cases hu:Dh t us with
 |none=>
  obtain⟨h1,h2⟩:=T.keep t ht hu
  rw[h1]
  exact⟨h2,(h.tok t (T.sub t ht)).2.2⟩
 |some s=>obtain⟨h1,h2,_⟩:=T.new t s hu;exact⟨h1,h2⟩
theorem Turn.good: ∀b o x,Aiu cx live' F' g.V g.S b o x→w'.cell? ⟨b,o,none⟩=some x:=by
 rintro b o x (hx|⟨t,ht,hx,_⟩)
 ·obtain⟨h1,h2⟩:=h.old b o x hx
  have h3:=h.lies b o x (h.g0 _ _ _ hx)
  unfold World.cell? at h3 ⊢
  simp only at h3 ⊢
  rw[T.moved.block b h1 h2,←h.moved.block b h1 h2]
  exact h3
 ·exact Ba.cell (Turn.liesF h T ht).1 hx
theorem Turn.rd {t:Nat} (ht:t∈live') {s:Sh} {d:s.den} {v:Value} (hO:A4 (F' t) s d v) (hv:v=g.V t) (hz:Hr s=g.S t) (hs:Ds s=true):RdD (El cx live' F' g.V g.S) s d v:=by
 refine A4.rdIn s (F' t) d v _ hO (fun b o x hx hlt=>Aiv (Turn.good h T) (.inr ⟨t,ht,hx,fun n cap hvt=>?_⟩))
 have:=hlt n cap (hv.trans hvt)
 rw[←hz]
 cases s with
 |sl e cs=>exact this
 |_=>cases hs
theorem Turn.room {t:Nat} (ht:t∈live') {v:Value} (hv:v=g.V t) {z:Nat} (hz:z=g.S t) (hr: ∀b n cap,v= .slice (some ⟨b,0,none⟩) n cap→n<cap→(F' t b).isSome=true):N5 (El cx live' F' g.V g.S) z v:=by
 intro b n cap hvb hc o ho
 cases hg:El cx live' F' g.V g.S b o with
 |none=>rfl
 |some x=>
  exfalso
  have hb:=hr b n cap hvb hc
  obtain⟨ob,hob⟩:=Option.isSome_iff_exists.1 hb
  rcases Ij hg with hx|⟨u,hu,hx,hlt⟩
  ·obtain⟨h1,h2⟩:=h.old b o x hx
   rcases(Turn.liesF h T ht).2 b ob hob with q|q
   ·omega
   ·rw[h2]at q;cases q
  ·by_cases hut:u=t
   ·subst hut
    have:=hlt n cap (hv.symm.trans hvb)
    rw[hz]at ho;omega
   ·rcases T.apart t u ht hu (Ne.symm hut) b with q|q
    ·rw[hob]at q;cases q
    ·unfold Cj Ac.cell at hx;rw[q]at hx;cases hx
noncomputable def Turn.gh (g:Gh) (cx:Cx) (live':List Nat) (F':Nat→Ac):Gh:=⟨El cx live' F' g.V g.S,g.B,F',g.V,g.S⟩
omit h T in
theorem A3i {g':Gh} {st':St} {G:Az} {s:Sh} {d:s.den} {v:Value} (hr:RdD G s d v):CR cx g' st' Ami v:=by
 refine⟨?_,fun e cs he=>(by cases he)⟩
 show RdD g'.G .junk () v
 simp only[RdD]
 exact Gz hr
theorem Turn.cl {x:Cl} {v:Value} (hx:CR cx g st x v):CR cx (Turn.gh g cx live' F') (G6 st live' us) (Hs live' us x) v:=by
 have hG0:cx.G0.sub (El cx live' F' g.V g.S):=fun b o y hy=>Aiv (Turn.good h T) (.inl hy)
 obtain⟨sh,val,tok⟩:=x
 obtain⟨h1,h2⟩:=hx
 have other:CR cx (Turn.gh g cx live' F') (G6 st live' us) (cond (Ds sh) Ami ⟨sh,val,.nil⟩) v:=by
  cases hs:Ds sh with
  |true=>exact A3i h1
  |false=>exact⟨RdD.scalar hs h1,fun e cs he=>(Bcv hs e cs he).elim⟩
 cases tok with
 |ro=>exact⟨RdD.sub hG0 _ _ _ h2,h2⟩
 |pin j=>exact⟨RdD.sub hG0 _ _ _ h2.1,h2⟩
 |nil=>
  refine⟨?_,h2⟩
  cases hs:Ds sh with
  |false=>exact RdD.scalar hs h1
  |true=>
   cases sh with
   |sl e cs=>obtain⟨a,ha⟩:=h2 e cs rfl;exact Aml h1 ha _
   |_=>cases hs
 |own t=>
  simp only[Hs]
  cases hu:Dh t us with
  |some s=>
   simp only
   cases hb:Sh.beq sh s.sh with
   |false=>exact A3i h1
   |true=>
    have he:=Sh.eq_of_beq _ _ hb
    have ht:t∈live':=T.keys _ (Acb hu)
    obtain⟨q1,q2,q3,q4,q5⟩:=h2.2 (T.sub t ht)
    obtain⟨n1,n2,n3,n4,n5⟩:=T.new t s hu
    have n3':A4 (F' t) s.sh s.val v:=by rw[q3];exact n3
    exact⟨Turn.rd h T ht n3' q3 n4 n5,h2.1,fun _=>⟨n3',Turn.room h T ht q3 n4 (fun b n cap hv hc=>A4.root n5 n3' hv hc),q3,n4,n5⟩⟩
  |none=>
   simp only
   cases hc:live'.contains t with
   |false=>exact other
   |true=>
    have ht:t∈live':=by simpa using hc
    obtain⟨q1,q2,q3,q4,q5⟩:=h2.2 (T.sub t ht)
    obtain⟨n1,n2⟩:=T.keep t ht hu
    have q1':A4 (F' t) sh val v:=by rw[n1];exact q1
    exact⟨Turn.rd h T ht q1' q3 q4 q5,h2.1,fun _=>⟨q1',Turn.room h T ht q3 q4 (fun b n cap hv hc=>A4.root q5 q1' hv hc),q3,q4,q5⟩⟩
 |rd=>exact other
 |row t=>exact other
 |elt t e cs l i d j=>exact other
 |bag t lo=>exact other
 |one s i t=>exact other
 |nst t=>exact other
 |prt t e cs l lo=>exact other
theorem Turn.cls: ∀ {xs:List Cl} {vs:List Value},CRs cx g st xs vs→CRs cx (Turn.gh g cx live' F') (G6 st live' us) (xs.map (Hs live' us)) vs
 |[],[],_=>trivial
 |x::xs,v::vs,hx=>⟨Turn.cl h T hx.1,Turn.cls hx.2⟩
 |[],_::_,hx=>hx.elim
 |_::_,[],hx=>hx.elim
theorem Turn.vv {a:Bool} {xs:List Cl} {v:Value} (hx:VRv cx g st a xs v):VRv cx (Turn.gh g cx live' F') (G6 st live' us) a (xs.map (Hs live' us)) v:=by
 cases a with
 |true=>obtain⟨vs,e,hx⟩:=hx;exact⟨vs,e,Turn.cls h T hx⟩
 |false=>exact Turn.cls h T (xs:=xs) (vs:=[v]) hx
theorem Turn.vt: ∀ {l:List (Bool×List Cl)} {vs:List Value},VRt cx g st l vs→VRt cx (Turn.gh g cx live' F') (G6 st live' us) (l.map fun x=>(x.1,x.2.map (Hs live' us))) vs
 |[],[],_=>trivial
 |x::xs,v::vs,hx=>⟨Turn.vv h T hx.1,Turn.vt hx.2⟩
 |[],_::_,hx=>hx.elim
 |_::_,[],hx=>hx.elim
theorem Turn.el: ∀ {xs:List Cl} {b o:Nat},ElR cx g st true xs b o→ElR cx (Turn.gh g cx live' F') (G6 st live' us) true (xs.map (Hs live' us)) b o
 |[],_,_,_=>trivial
 |x::xs,b,o,⟨⟨u,h1,h2⟩,h3⟩=>⟨⟨u,h1,Turn.cl h T h2⟩,Turn.el h3⟩
theorem Turn.v {p:PV} {v:Value} (hx:VR cx g st p v):VR cx (Turn.gh g cx live' F') (G6 st live' us) (Nv live' us p) v:=by
 cases p with
 |any=>trivial
 |v a xs=>exact Turn.vv h T hx
 |box b off=>exact⟨by rw[On];exact hx.1,hx.2⟩
 |tup l=>obtain⟨vs,e,hx⟩:=hx;exact⟨vs,e,Turn.vt h T hx⟩
 |el p ro xs=>
  cases ro with
  |false=>trivial
  |true=>obtain⟨b,o,e,hx,_⟩:=hx;exact⟨b,o,e,Turn.el h T hx,trivial⟩
theorem Turn.rm:RM cx (Turn.gh g cx live' F') (G6 st live' us) w':=by
 refine⟨T.moved,fun b o x hx=>Turn.good h T b o x (Ij hx),fun b o y hy=>Aiv (Turn.good h T) (.inl hy),h.old,?_,?_,?_,?_,T.apart,?_,T.nodup,?_⟩
 ·intro k cs hk
  rw[A0e]at hk
  cases hb:st.bx k with
  |none=>rw[hb]at hk;cases hk
  |some c0=>
   rw[hb]at hk
   simp at hk;subst hk
   obtain⟨vs,e,h1,h2,h3⟩:=h.box k c0 hb
   exact⟨vs,e,by rw[←h1];exact T.box k (Fk hb),h2,Turn.cls h T h3⟩
 ·intro i j hi hj;rw[On]at hi hj;exact h.inj i j hi hj
 ·intro k o hk
  rw[On]at hk
  cases hg:El cx live' F' g.V g.S (g.B k) o with
  |none=>exact hg
  |some x=>
   exfalso
   rcases Ij hg with hx|⟨u,hu,hx,hlt⟩
   ·have:=h.g0 _ _ _ hx
    rw[h.boxG k o hk]at this;cases this
   ·unfold Cj Ac.cell at hx;rw[T.tokBox u k hu hk]at hx;cases hx
 ·intro t ht
  obtain⟨h1,h2⟩:=Turn.liesF h T ht
  exact⟨(h.tok t (T.sub t ht)).1,h1,h2⟩
 ·intro t k ht hk;rw[On]at hk;exact T.tokBox t k ht hk
 ·intro b o x hx
  rcases Ij hx with hx|⟨u,hu,hx,_⟩
  ·exact .inl hx
  ·right
   unfold Cj Ac.cell at hx
   cases hf:F' u b with
   |none=>rw[hf]at hx;cases hx
   |some ob=>exact(Turn.liesF h T hu).2 b ob hf
theorem Turn.env {nt:Nat} {a:Act} (hE:Env nt cx g st a):Env nt cx (Turn.gh g cx live' F') (G6 st live' us) a:=
 ⟨hE.1,hE.2.1,fun i=>by rw[A7t];exact Turn.v h T (hE.2.2.1 i),hE.2.2.2⟩
end
end Go.Proofs.YtmhhajdeafijmaaGreat
namespace Go.Proofs.YtmhhajdeafijmaaGreat
open Go.RowKit
set_option linter.unusedVariables false
set_option linter.unusedSectionVars false
set_option linter.unusedSimpArgs false

theorem Si {α:Type} {L vals:List α} {o:Nat} (h:o+vals.length≤L.length) (k:Nat):(Bi L o vals)[k]? =if k<o then L[k]? else if k<o+vals.length then vals[k-o]? else L[k]? :=by
 unfold Bi
 by_cases h1:k<o
 ·rw[if_pos h1,List.append_assoc,List.getElem?_append_left (by simp;omega),List.getElem?_take,if_pos h1]
 ·rw[if_neg h1]
  by_cases h2:k<o+vals.length
  ·rw[if_pos h2,List.getElem?_append_left (by simp;omega),List.getElem?_append_right (by simp;omega)]
   congr 1;simp;omega
  ·rw[if_neg h2,List.getElem?_append_right (by simp;omega),List.getElem?_drop]
   congr 1;simp;omega
theorem Sj {α:Type} {L vals:List α} {o:Nat} (h:o+vals.length≤L.length):(Bi L o vals).length=L.length:=by
 unfold Bi;simp;omega
theorem Auu {sz i off:Nat} {css:List (List Value)} (hall: ∀c∈css,c.length=sz) {c vals:List Value} (hc:css[i]? =some c) (hfit:off+vals.length≤sz):
  (css.set i (Bi c off vals)).flatten=Bi css.flatten (i*sz+off) vals:=by
 have hcl:c.length=sz:=hall c (List.mem_of_getElem? hc)
 have hil:i<css.length:=(List.getElem?_eq_some_iff.1 hc).1
 have hall': ∀x∈css.set i (Bi c off vals),x.length=sz:=fun x hx=>by
  rcases List.mem_or_eq_of_mem_set hx with h|h
  ·exact hall x h
  ·rw[h,Sj (by omega)];exact hcl
 have hL:css.flatten.length=css.length*sz:=De hall
 have hle:i*sz+sz≤css.length*sz:=by rw[←Nat.succ_mul];exact Nat.mul_le_mul_right _ hil
 apply List.ext_getElem?
 intro k
 rw[Si (by rw[hL];omega)]
 rcases Nat.lt_or_ge k (css.length*sz)with hk|hk
 ·have hsz:0<sz:=by
   rcases Nat.eq_zero_or_pos sz with h|h
   ·rw[h]at hk;omega
   ·exact h
  have h1:k/sz<css.length:=Nat.div_lt_of_lt_mul (by rw[Nat.mul_comm];exact hk)
  have h2:k%sz<sz:=Nat.mod_lt _ hsz
  have hkd:k/sz*sz+k%sz=k:=by rw[Nat.mul_comm];exact Nat.div_add_mod k sz
  have hold:=Fh hall (List.getElem?_eq_getElem h1) h2
  rw[hkd]at hold
  by_cases hi:k/sz=i
  ·have hnew:=Fh hall' (i:=k/sz) (j:=k%sz) (c:=Bi c off vals) (by rw[hi,List.getElem?_set_self hil]) h2
   rw[hkd]at hnew
   have hold':=Fh hall hc h2
   have hkd':i*sz+k%sz=k:=by rw[←hi];exact hkd
   rw[hkd']at hold'
   rw[hnew,Si (by omega),hold']
   clear hnew hold hold'
   generalize k%sz=q at*
   generalize i*sz=m at*
   by_cases a1:q<off
   ·have a3:k<m+off:=by omega
    simp only[a1,a3,if_true]
   ·have a3: ¬k<m+off:=by omega
    simp only[a1,a3,if_false]
    by_cases a2:q<off+vals.length
    ·have a4:k<m+off+vals.length:=by omega
     simp only[a2,a4,if_true]
     congr 1;omega
    ·have a4: ¬k<m+off+vals.length:=by omega
     simp only[a2,a4,if_false]
  ·have hnew:=Fh hall' (i:=k/sz) (j:=k%sz) (c:=css[k/sz]) (by rw[List.getElem?_set_ne (Ne.symm hi)];exact List.getElem?_eq_getElem h1) h2
   rw[hkd]at hnew
   rw[hnew,hold]
   rcases Nat.lt_or_gt_of_ne hi with hlt|hgt
   ·have:(k/sz)*sz+sz≤i*sz:=by rw[←Nat.succ_mul];exact Nat.mul_le_mul_right _ hlt
    rw[if_pos (by omega)]
   ·have:i*sz+sz≤(k/sz)*sz:=by rw[←Nat.succ_mul];exact Nat.mul_le_mul_right _ hgt
    rw[if_neg (by omega),if_neg (by omega)]
 ·rw[List.getElem?_eq_none (by rw[De hall'];simpa using hk),if_neg (by omega),if_neg (by omega),List.getElem?_eq_none (by rw[hL];exact hk)]
theorem A0f {α:Type} {L vals:List α} {o m:Nat} (h:o+vals.length≤m) (hm:m≤L.length):(Bi L o vals).take m=Bi (L.take m) o vals:=by
 apply List.ext_getElem?
 intro k
 rw[List.getElem?_take,Si (by omega),Si (by simp;omega),List.getElem?_take]
 by_cases hk:k<m
 ·simp only[hk,if_true]
 ·rw[if_neg hk,if_neg hk,if_neg (by omega),if_neg (by omega)]
theorem Ao4 {α:Type} (c:List α) (off:Nat):Bi c off []=c:=by unfold Bi;simp
theorem Bf.set: ∀ {cs:List Sh} {h f:Ac} {d d':dens cs} {c vals:List Value} {xs:List Cl} {off:Nat},Bf h cs d c→OCs f xs vals→Mn cs d off xs=some d'→h.apart f→Bf (h.join f) cs d' (Bi c off vals)
 |[],h,f,d,d',c,vals,xs,off,h1,h2,h3,h4=>by
  cases xs with
  |nil=>
   cases vals with
   |nil=>rw[Ao4];simp only[Bf]at h1 ⊢;exact h1
   |cons _ _=>exact h2.elim
  |cons _ _=>simp[Mn]at h3
 |s::r,h,f,d,d',c,vals,[],off,h1,h2,h3,h4=>by
  cases vals with
  |cons _ _=>exact h2.elim
  |nil=>
   rw[Ao4]
   simp[Mn]at h3;subst h3
   exact h1.sub (Ac.sub_join_left _ _)
 |s::r,h,f,d,d',c,vals,x::xs,0,h1,h2,h3,h4=>by
  cases vals with
  |nil=>exact h2.elim
  |cons v vs=>
   obtain⟨g1,g2,hp,ho,hr⟩:=h2
   simp only[Mn]at h3
   obtain⟨a,ha,h3⟩:=Ah h3
   obtain⟨e,he,h3⟩:=Ah h3
   simp at h3;subst h3
   simp only[Bf]at h1 ⊢
   obtain⟨v0,t,p,q,rfl,hp2,k1,k2⟩:=h1
   have a1:g1.sub f:=hp.2 g1 (by simp)
   have a2:g2.sub f:=hp.2 g2 (by simp)
   have b1:p.sub h:=hp2.2 p (by simp)
   have b2:q.sub h:=hp2.2 q (by simp)
   have ih:=Bf.set (off:=0) k2 hr he (Ac.apart_sub h4 b2 a2)
   refine⟨v,Bi t 0 vs,g1,q.join g2,by simp[Bi],⟨List.pairwise_cons.2 ⟨fun z hz=>?_,List.pairwise_singleton _ _⟩,fun z hz=>?_⟩,?_,ih⟩
   ·simp at hz;subst hz
    exact Ac.apart_join (Ac.apart_symm (Ac.apart_sub h4 b2 a1)) ((List.pairwise_cons.1 hp.1).1 g2 (by simp))
   ·simp at hz
    rcases hz with rfl|rfl
    ·exact Ac.sub_trans a1 (Ac.sub_join_right h4)
    ·exact Ac.join_sub (Ac.sub_trans b2 (Ac.sub_join_left _ _)) (Ac.sub_trans a2 (Ac.sub_join_right h4))
   ·obtain⟨e1,e2⟩:=As1 ha
    obtain⟨sh,val,tok⟩:=x
    simp only at e1;subst e1
    rw[e2];exact ho
 |s::r,h,f,d,d',c,vals,x::xs,n+1,h1,h2,h3,h4=>by
  simp only[Mn]at h3
  obtain⟨e,he,h3⟩:=Ah h3
  simp at h3;subst h3
  simp only[Bf]at h1 ⊢
  obtain⟨v0,t,p,q,rfl,hp2,k1,k2⟩:=h1
  have b1:p.sub h:=hp2.2 p (by simp)
  have b2:q.sub h:=hp2.2 q (by simp)
  have ih:=Bf.set (off:=n) k2 h2 he (Ac.apart_sub h4 b2 (Ac.sub_refl _))
  refine⟨v0,Bi t n vals,p,q.join f,?_,⟨List.pairwise_cons.2 ⟨fun z hz=>?_,List.pairwise_singleton _ _⟩,fun z hz=>?_⟩,k1,ih⟩
  ·unfold Bi
   rw[show n+1+vals.length=(n+vals.length)+1 by omega]
   simp
  ·simp at hz;subst hz
   exact Ac.apart_join ((List.pairwise_cons.1 hp2.1).1 q (by simp)) (Ac.apart_sub h4 b1 (Ac.sub_refl _))
  ·simp at hz
   rcases hz with rfl|rfl
   ·exact Ac.sub_trans b1 (Ac.sub_join_left _ _)
   ·exact Ac.join_sub (Ac.sub_trans b2 (Ac.sub_join_left _ _)) (Ac.sub_join_right h4)
theorem Awg {r:Ac} {hs:List Ac} {i:Nat} {h h':Ac} (hp:(r::hs).Pairwise Ac.apart) (hi:hs[i]? =some h) {r':Ac} (hr: ∀k,(r' k).isSome=true→(r k).isSome=true) (hh: ∀x,x∈r::hs→x≠h→True)
  (hap: ∀j x,hs[j]? =some x→j≠i→x.apart h') (hrh:r'.apart h'):(r'::hs.set i h').Pairwise Ac.apart:=by
 refine List.pairwise_cons.2 ⟨fun x hx=>?_,?_⟩
 ·rcases List.mem_or_eq_of_mem_set hx with h1|h1
  ·intro k
   rcases(List.pairwise_cons.1 hp).1 x h1 k with q|q
   ·left
    cases e:r' k with
    |none=>rfl
    |some o=>have:=hr k (by rw[e];rfl);rw[q]at this;cases this
   ·exact .inr q
  ·rw[h1];exact hrh
 ·have hpw:=(List.pairwise_cons.1 hp).2
  rw[List.pairwise_iff_getElem]at hpw ⊢
  intro a b ha hb hab
  simp only[List.length_set]at ha hb
  simp only[List.getElem_set]
  by_cases h1:i=a
  ·by_cases h2:i=b
   ·omega
   ·rw[if_pos h1,if_neg h2]
    exact Ac.apart_symm (hap b _ (List.getElem?_eq_getElem hb) (fun e=>h2 e.symm))
  ·by_cases h2:i=b
   ·rw[if_neg h1,if_pos h2]
    exact hap a _ (List.getElem?_eq_getElem ha) (fun e=>h1 e.symm)
   ·rw[if_neg h1,if_neg h2];exact hpw a b ha hb hab
theorem Aiw {r:Ac} {hs:List Ac} (hp:(r::hs).Pairwise Ac.apart) {i j:Nat} {x y:Ac} (hi:hs[i]? =some x) (hj:hs[j]? =some y) (hne:j≠i):y.apart x:=by
 have hpw:=(List.pairwise_cons.1 hp).2
 rw[List.pairwise_iff_getElem]at hpw
 obtain⟨ha,ea⟩:=List.getElem?_eq_some_iff.1 hi
 obtain⟨hb,eb⟩:=List.getElem?_eq_some_iff.1 hj
 subst ea eb
 rcases Nat.lt_or_gt_of_ne hne with q|q
 ·exact hpw j i hb ha q
 ·exact Ac.apart_symm (hpw i j ha hb q)
theorem Bh.set {α:Type} {sz:Nat} {own:Ac→List Value→α→Prop} {hs:List Ac} {css:List (List Value)} {l:List α} (h:Bh sz own hs css l) {i:Nat} {g:Ac} {c:List Value} {a:α} (hc:c.length=sz) (ho:own g c a) (hi:i<l.length):
  Bh sz own (hs.set i g) (css.set i c) (l.set i a):=by
 refine⟨by simp[h.1],by simp[h.2.1],fun j h' c' a' e1 e2 e3=>?_⟩
 by_cases hj:i=j
 ·subst hj
  rw[List.getElem?_set_self (by rw[h.2.1];exact hi)]at e1
  rw[List.getElem?_set_self (by rw[h.1];exact hi)]at e2
  rw[List.getElem?_set_self hi]at e3
  cases e1;cases e2;cases e3
  exact⟨hc,ho⟩
 ·rw[List.getElem?_set_ne hj]at e1 e2 e3
  exact h.2.2 j h' c' a' e1 e2 e3
theorem A4.setElem {F:Ac} {e:Nat} {cs:List Sh} {l:List (dens cs)} {v:Value} {i:Nat} {d:dens cs} (hO:A4 F (.sl e cs) l v) (hd:l[i]? =some d) {f:Ac} {xs:List Cl} {vals:List Value} {off:Nat} {d':dens cs}
  (hx:OCs f xs vals) (hs:Mn cs d off xs=some d') (hap:F.apart f) (hfit:off+vals.length≤cs.length):
  ∃b n cap cur,v= .slice (some ⟨b,0,none⟩) n cap∧F b=some (.cells cur e (0,0))∧i*cs.length+off+vals.length≤cur.size∧
   A4 ((Ac.one b (.cells (Bi cur.toList (i*cs.length+off) vals).toArray e (0,0))).join (F.join f)) (.sl e cs) (l.set i d') v:=by
 simp only[A4]at hO ⊢
 obtain⟨css,r,hss,hrow,hp,hel⟩:=hO
 have hi:i<l.length:=(List.getElem?_eq_some_iff.1 hd).1
 obtain⟨hl,⟨⟨a',hE⟩,hz⟩|⟨b,cap,cur,hE,hg,hnc,hcm,hsz,htk⟩⟩:=hrow
 ·omega
 have hic:i<css.length:=by rw[hel.1];exact hi
 have hih:i<hss.length:=by rw[hel.2.1];exact hi
 obtain⟨hclen,hown⟩:=hel.2.2 i _ _ d (List.getElem?_eq_getElem hih) (List.getElem?_eq_getElem hic) hd
 have hFb:F b=some (.cells cur e (0,0)):=hp.2 r (by simp) _ _ hg
 have hfb:f b=none:=(hap b).resolve_left (by rw[hFb];simp)
 have hle:i*cs.length+cs.length≤l.length*cs.length:=by rw[←Nat.succ_mul];exact Nat.mul_le_mul_right _ hi
 have hlc:l.length*cs.length≤cap*cs.length:=Nat.mul_le_mul_right _ hnc
 have hnew:=Bf.set hown hx hs (Ac.apart_sub hap (hp.2 _ (by simp[List.getElem_mem])) (Ac.sub_refl _))
 refine⟨b,_,cap,cur,hE,hFb,by omega,css.set i (Bi css[i] off vals),Ac.one b (.cells (Bi cur.toList (i*cs.length+off) vals).toArray e (0,0)),hss.set i (hss[i].join f),?_,⟨?_,?_⟩,?_⟩
 ·rw[List.length_set,Auu hel.len (List.getElem?_eq_getElem hic) hfit]
  refine⟨by rw[Sj (by rw[hl];omega),hl],.inr ⟨b,cap,_,hE,Lr _ _,hnc,hcm,?_,?_⟩⟩
  ·simp only[List.size_toArray]
   rw[Sj (by simp;omega)]
   simpa using hsz
  ·rw[←htk]
   exact A0f (by omega) (by simp;omega)
 ·refine Awg hp.1 (List.getElem?_eq_getElem hih) (fun k hk=>?_) (fun _ _ _=>trivial) (fun j x hj hne=>Ac.apart_join (Aiw hp.1 (List.getElem?_eq_getElem hih) hj hne) (Ac.apart_sub hap (hp.2 _ (by simp[List.mem_of_getElem? hj])) (Ac.sub_refl _))) (fun k=>?_)
  ·simp only[Ac.one]at hk
   split at hk
   ·rename_i e;rw[e,hg];rfl
   ·cases hk
  ·simp only[Ac.one,Ac.join]
   by_cases hk:k=b
   ·right
    subst hk
    rcases(List.pairwise_cons.1 hp.1).1 hss[i] (List.getElem_mem hih) k with q|q
    ·rw[hg]at q;cases q
    ·simp[q,hfb]
   ·left;simp[hk]
 ·intro x hx'
  rcases List.mem_cons.1 hx' with e1|hx'
  ·subst e1;exact Ac.sub_join_left _ _
  ·have hb0:x b=none:=by
    rcases List.mem_or_eq_of_mem_set hx' with h1|h1
    ·rcases(List.pairwise_cons.1 hp.1).1 x h1 b with q|q
     ·rw[hg]at q;cases q
     ·exact q
    ·rw[h1]
     rcases(List.pairwise_cons.1 hp.1).1 hss[i] (List.getElem_mem hih) b with q|q
     ·rw[hg]at q;cases q
     ·simp[Ac.join,q,hfb]
   have hsub:x.sub (F.join f):=by
    rcases List.mem_or_eq_of_mem_set hx' with h1|h1
    ·exact Ac.sub_trans (hp.2 x (by simp[h1])) (Ac.sub_join_left _ _)
    ·rw[h1]
     exact Ac.join_sub (Ac.sub_trans (hp.2 _ (by simp[List.getElem_mem])) (Ac.sub_join_left _ _)) (Ac.sub_join_right hap)
   intro k o hk
   have hne:k≠b:=fun e=>by rw[e,hb0]at hk;cases hk
   have:=hsub k o hk
   simp only[Ac.join,Ac.one,hne,if_false]
   simpa [Ac.join] using this
 ·exact hel.set (by rw[Sj (by omega)];exact hclen) hnew hi
def Ac.less (f g:Ac):Ac:=fun k=>if (g k).isSome=true then none else f k
theorem Ac.less_sub (f g:Ac):(f.less g).sub f:=fun k o h=>by
 unfold Ac.less at h
 split at h
 ·cases h
 ·exact h
theorem Ac.less_apart (f g:Ac):(f.less g).apart g:=fun k=>by
 unfold Ac.less
 cases e:g k with
 |none=>exact .inr rfl
 |some o=>left;simp
theorem N7 {f g h:Ac} (hs:h.sub f) (ha:h.apart g):h.sub (f.less g):=fun k o hk=>by
 unfold Ac.less
 rw[if_neg]
 ·exact hs k o hk
 ·intro hg
  rcases ha k with q|q
  ·rw[hk]at q;cases q
  ·rw[q]at hg;cases hg
theorem Bf.focus: ∀ {cs:List Sh} {h:Ac} {d:dens cs} {c:List Value} {j:Nat} {x:Sg},Bf h cs d c→Es cs d j=some x→
  ∃g v,c[j]? =some v∧g.sub h∧A4 g x.sh x.val v∧ ∀(g':Ac) (y:Sg) (d':dens cs),(h.less g).apart g'→A4 g' y.sh y.val v→Mn cs d j [⟨y.sh,y.val,.nil⟩]=some d'→Bf ((h.less g).join g') cs d' c
 |[],h,d,c,j,x,_,hx=>by simp[Es]at hx
 |s::r,h,d,c,0,x,h1,hx=>by
  simp only[Es,Option.some.injEq]at hx
  subst hx
  simp only[Bf]at h1
  obtain⟨v,t,p,q,rfl,hp,k1,k2⟩:=h1
  refine⟨p,v,rfl,hp.2 p (by simp),k1,fun g' y d' ha ho hs=>?_⟩
  simp only[Mn]at hs
  obtain⟨a,hae,hs⟩:=Ah hs
  obtain⟨e,he,hs⟩:=Ah hs
  simp at he hs
  subst he;subst hs
  simp only[Bf]
  have hq:q.sub (h.less p):=N7 (hp.2 q (by simp)) (Ac.apart_symm ((List.pairwise_cons.1 hp.1).1 q (by simp)))
  refine⟨v,t,g',q,rfl,⟨List.pairwise_cons.2 ⟨fun z hz=>?_,List.pairwise_singleton _ _⟩,fun z hz=>?_⟩,?_,k2⟩
  ·simp at hz;subst hz
   exact Ac.apart_symm (Ac.apart_sub ha hq (Ac.sub_refl _))
  ·simp at hz
   rcases hz with rfl|rfl
   ·exact Ac.sub_join_right ha
   ·exact Ac.sub_trans hq (Ac.sub_join_left _ _)
  ·obtain⟨e1,e2⟩:=As1 hae
   obtain⟨sh,val⟩:=y
   simp only at e1;subst e1
   rw[e2];exact ho
 |s::r,h,d,c,j+1,x,h1,hx=>by
  simp only[Es]at hx
  simp only[Bf]at h1
  obtain⟨v0,t,p,q,rfl,hp,k1,k2⟩:=h1
  obtain⟨g,v,f1,f2,f3,f4⟩:=Bf.focus k2 hx
  have hpq:p.apart q:=(List.pairwise_cons.1 hp.1).1 q (by simp)
  have hqh:q.sub h:=hp.2 q (by simp)
  refine⟨g,v,by simpa using f1,Ac.sub_trans f2 hqh,f3,fun g' y d' ha ho hs=>?_⟩
  simp only[Mn]at hs
  obtain⟨e,he,hs⟩:=Ah hs
  simp at hs;subst hs
  have hql:(q.less g).sub (h.less g):=N7 (Ac.sub_trans (Ac.less_sub _ _) hqh) (Ac.less_apart _ _)
  have hpl:p.sub (h.less g):=N7 (hp.2 p (by simp)) (Ac.apart_sub hpq (Ac.sub_refl _) f2)
  have ih:=f4 g' y e (Ac.apart_sub ha hql (Ac.sub_refl _)) ho he
  simp only[Bf]
  refine⟨v0,t,p,(q.less g).join g',rfl,⟨List.pairwise_cons.2 ⟨fun z hz=>?_,List.pairwise_singleton _ _⟩,fun z hz=>?_⟩,k1,ih⟩
  ·simp at hz;subst hz
   exact Ac.apart_join (Ac.apart_sub hpq (Ac.sub_refl _) (Ac.less_sub _ _)) (Ac.apart_sub ha hpl (Ac.sub_refl _))
  ·simp at hz
   rcases hz with rfl|rfl
   ·exact Ac.sub_trans hpl (Ac.sub_join_left _ _)
   ·exact Ac.join_sub (Ac.sub_trans hql (Ac.sub_join_left _ _)) (Ac.sub_join_right ha)
theorem A4.focus {F:Ac} {e:Nat} {cs:List Sh} {l:List (dens cs)} {v:Value} {i j:Nat} {d:dens cs} {x:Sg} (hO:A4 F (.sl e cs) l v) (hd:l[i]? =some d) (hx:Es cs d j=some x):
  ∃g u b n cap,v= .slice (some ⟨b,0,none⟩) n cap∧F.cell b (i*cs.length+j)=some u∧g.sub F∧A4 g x.sh x.val u∧
   ∀(g':Ac) (y:Sg) (d':dens cs),(F.less g).apart g'→A4 g' y.sh y.val u→Mn cs d j [⟨y.sh,y.val,.nil⟩]=some d'→A4 ((F.less g).join g') (.sl e cs) (l.set i d') v:=by
 simp only[A4]at hO
 obtain⟨css,r,hss,hrow,hp,hel⟩:=hO
 have hi:i<l.length:=(List.getElem?_eq_some_iff.1 hd).1
 have hrow0:=hrow
 obtain⟨hl,⟨⟨a',hE⟩,hz⟩|⟨b,cap,cur,hE,hg,hnc,hcm,hsz,htk⟩⟩:=hrow
 ·omega
 have hic:i<css.length:=by rw[hel.1];exact hi
 have hih:i<hss.length:=by rw[hel.2.1];exact hi
 obtain⟨hclen,hown⟩:=hel.2.2 i _ _ d (List.getElem?_eq_getElem hih) (List.getElem?_eq_getElem hic) hd
 obtain⟨g,u,f1,f2,f3,f4⟩:=hown.focus hx
 have hsubi:hss[i].sub F:=hp.2 _ (by simp[List.getElem_mem])
 have hj:j<cs.length:=by have:=(List.getElem?_eq_some_iff.1 f1).1;omega
 refine⟨g,u,b,_,cap,hE,?_,Ac.sub_trans f2 hsubi,f3,fun g' y d' ha ho hs=>?_⟩
 ·unfold Ac.cell
  rw[hp.2 r (by simp) _ _ hg]
  have h1:=Fh hel.len (List.getElem?_eq_getElem hic) hj
  rw[f1,←htk,List.getElem?_take]at h1
  split at h1
  ·simpa using h1
  ·cases h1
 ·have hil:(hss[i].less g).sub (F.less g):=N7 (Ac.sub_trans (Ac.less_sub _ _) hsubi) (Ac.less_apart _ _)
  have hnew:=f4 g' y d' (Ac.apart_sub ha hil (Ac.sub_refl _)) ho hs
  have hri:r.apart hss[i]:=(List.pairwise_cons.1 hp.1).1 _ (List.getElem_mem hih)
  have hrl:r.sub (F.less g):=N7 (hp.2 r (by simp)) (Ac.apart_sub hri (Ac.sub_refl _) f2)
  simp only[A4]
  refine⟨css,r,hss.set i ((hss[i].less g).join g'),?_,⟨Awg hp.1 (List.getElem?_eq_getElem hih) (fun k hk=>hk) (fun _ _ _=>trivial) (fun q z hq hne=>?_) ?_,fun z hz=>?_⟩,?_⟩
  ·rw[List.length_set];exact hrow0.sub (Ac.sub_refl _)
  ·have hzi:=Aiw hp.1 (List.getElem?_eq_getElem hih) hq hne
   have hzl:z.sub (F.less g):=N7 (hp.2 z (by simp[List.mem_of_getElem? hq])) (Ac.apart_sub hzi (Ac.sub_refl _) f2)
   exact Ac.apart_join (Ac.apart_sub hzi (Ac.sub_refl _) (Ac.less_sub _ _)) (Ac.apart_sub ha hzl (Ac.sub_refl _))
  ·exact Ac.apart_join (Ac.apart_sub hri (Ac.sub_refl _) (Ac.less_sub _ _)) (Ac.apart_sub ha hrl (Ac.sub_refl _))
  ·rcases List.mem_cons.1 hz with e1|hz
   ·subst e1;exact Ac.sub_trans hrl (Ac.sub_join_left _ _)
   ·obtain⟨q,hq⟩:=List.getElem?_of_mem hz
    by_cases hqi:i=q
    ·subst hqi
     rw[List.getElem?_set_self hih]at hq
     cases hq
     exact Ac.join_sub (Ac.sub_trans hil (Ac.sub_join_left _ _)) (Ac.sub_join_right ha)
    ·rw[List.getElem?_set_ne hqi]at hq
     have hzi:=Aiw hp.1 (List.getElem?_eq_getElem hih) hq (Ne.symm hqi)
     exact Ac.sub_trans (N7 (hp.2 z (by simp[List.mem_of_getElem? hq])) (Ac.apart_sub hzi (Ac.sub_refl _) f2)) (Ac.sub_join_left _ _)
  ·have:=hel.set (i:=i) (c:=css[i]) hclen hnew hi
   rw[show css.set i css[i]=css by simp]at this
   exact this
end Go.Proofs.YtmhhajdeafijmaaGreat
namespace Go.Proofs.YtmhhajdeafijmaaGreat
open Go.RowKit
set_option linter.unusedVariables false
set_option linter.unusedSectionVars false
set_option linter.unusedSimpArgs false

theorem Env.ext' {nt:Nat} {cx:Cx} {g g':Gh} {st st':St} {a:Act} (h:Env nt cx g st a) (hE:Ext g st g' st') (he:st'.env=st.env):Env nt cx g' st' a:=
 ⟨h.1,h.2.1,fun i=>by
  have:st'.get i=st.get i:=by unfold St.get;rw[he]
  rw[this];exact(h.2.2.1 i).ext hE,h.2.2.2⟩
theorem Afp {d:Option Nat} {a m:List Nat} {us:List (Nat×Sg)} {st st':St} (h:(Ef.rs a m us).app d st=some st'): ∃live',eat st.live a=some live'∧(∀u,u∈us→u.1∈live')∧(∀t,t∈m→t∉st.used)∧
  st'={G6 st live' us with live:=m.reverse++live',used:=m.reverse++st.used}:=by
 obtain⟨l,hl,h⟩:=Ah h
 obtain⟨hc,h⟩:=A2 h
 obtain⟨u,hu,h⟩:=Ah h
 obtain⟨b1,b2⟩:=Gl hu
 subst b1
 simp only[Option.some.injEq]at h
 refine⟨l,hl,fun u hu=>?_,b2,h.symm⟩
 have:=(List.all_eq_true.1 hc) u hu
 simpa using this
def Ky (t:Nat):List (Nat×Ac)→Option Ac
 |[]=>none
 |(u,f)::r=>if t=u then some f else Ky t r
def UF (gh:Gh):List (Nat×Sg)→List (Nat×Ac)→Prop
 |[],[]=>True
 |u::us,p::fs=>p.1=u.1∧(A4 p.2 u.2.sh u.2.val (gh.V u.1)∧Hr u.2.sh=gh.S u.1∧Ds u.2.sh=true)∧UF gh us fs
 |_,_=>False
theorem UF.app {gh:Gh}: ∀ {us us':List (Nat×Sg)} {fs fs':List (Nat×Ac)},UF gh us fs→UF gh us' fs'→UF gh (us++us') (fs++fs')
 |[],_,[],_,_,h=>h
 |_::_,_,_::_,_,h,h'=>⟨h.1,h.2.1,h.2.2.app h'⟩
 |[],_,_::_,_,h,_=>h.elim
 |_::_,_,[],_,h,_=>h.elim
theorem UF.look {gh:Gh} {t:Nat}: ∀ {us:List (Nat×Sg)} {fs:List (Nat×Ac)},UF gh us fs→(∀s,Dh t us=some s→ ∃f,Ky t fs=some f∧(t,f)∈fs∧A4 f s.sh s.val (gh.V t)∧Hr s.sh=gh.S t∧Ds s.sh=true)∧(Dh t us=none→Ky t fs=none)
 |[],[],_=>⟨fun s h=>(by cases h),fun _=>rfl⟩
 |(u,x)::us,(v,f)::fs,h=>by
  obtain⟨h1,h2,h3⟩:=h
  simp only at h1
  subst h1
  have ih:=UF.look (t:=t) h3
  simp only[Dh,Ky]
  cases hb:Nat.beq t v with
  |true=>
   have e:=Nat.eq_of_beq_eq_true hb
   subst e
   refine⟨fun s hs=>?_,fun hs=>(by cases hs)⟩
   simp at hs;subst hs
   exact⟨f,by simp,by simp,h2⟩
  |false=>
   have e:t≠v:=fun e=>by rw[e,Nat.beq_refl]at hb;cases hb
   refine⟨fun s hs=>?_,fun hs=>?_⟩
   ·obtain⟨f',k1,k2,k3⟩:=ih.1 s hs
    exact⟨f',by rw[if_neg e];exact k1,List.mem_cons_of_mem _ k2,k3⟩
   ·rw[if_neg e];exact ih.2 hs
 |[],_::_,h=>h.elim
 |_::_,[],h=>h.elim
theorem Auv {cx:Cx} {gh:Gh} {st:St}: ∀ {xs:List Cl} {vs:List Value} {ys:List Sg} {g:Ac} {us:List (Nat×Sg)},CRs cx gh st xs vs→OVs g ys vs→Ad8 xs ys=some us→(∀u,u∈us→u.1∈st.live)→
  ∃fs:List (Nat×Ac),UF gh us fs∧(fs.map fun p=>p.2).Pairwise Ac.apart∧ ∀p,p∈fs→p.2.sub g
 |[],[],[],g,us,_,_,h,_=>by
  simp[Ad8]at h;subst h
  exact⟨[],trivial,.nil,fun p hp=>by cases hp⟩
 |x::xs,v::vs,y::ys,g,us,hc,ho,h,hl=>by
  obtain⟨p,q,hp,ho1,ho2⟩:=ho
  simp only[Ad8]at h
  obtain⟨r,hr,h⟩:=Ah h
  have rest:(∀u,u∈r→u.1∈st.live)→ ∃fs:List (Nat×Ac),UF gh r fs∧(fs.map fun p=>p.2).Pairwise Ac.apart∧ ∀p,p∈fs→p.2.sub q:=fun hl'=>Auv hc.2 ho2 hr hl'
  split at h
  ·rename_i e cs t d
   obtain⟨hb,h⟩:=A2 h
   simp at h;subst h
   obtain⟨fs,k1,k2,k3⟩:=rest (fun u hu=>hl u (by simp[hu]))
   have he:=Sh.eq_of_beq _ _ hb
   obtain⟨q1,q2⟩:=hc.1
   obtain⟨r1,r2,r3,r4,r5⟩:=q2.2 (hl (t,y) (by simp))
   refine⟨(t,p)::fs,⟨rfl,⟨by rw[←r3];exact ho1,by rw[←he];exact r4,by rw[←he];rfl⟩,k1⟩,?_,fun z hz=>?_⟩
   ·simp only[List.map_cons]
    refine List.pairwise_cons.2 ⟨fun z hz=>?_,k2⟩
    obtain⟨z',hz',rfl⟩:=List.mem_map.1 hz
    exact Ac.apart_sub ((List.pairwise_cons.1 hp.1).1 q (by simp)) (Ac.sub_refl _) (k3 z' hz')
   ·rcases List.mem_cons.1 hz with e1|hz
    ·rw[e1];exact hp.2 p (by simp)
    ·exact Ac.sub_trans (k3 z hz) (hp.2 q (by simp))
  ·simp at h;subst h
   obtain⟨fs,k1,k2,k3⟩:=rest hl
   exact⟨fs,k1,k2,fun z hz=>Ac.sub_trans (k3 z hz) (hp.2 q (by simp))⟩
 |[],[],_::_,_,_,_,ho,_,_=>ho.elim
 |[],_::_,_,_,_,hc,_,_,_=>hc.elim
 |_::_,[],_,_,_,hc,_,_,_=>hc.elim
 |_::_,_::_,[],_,_,_,ho,_,_=>ho.elim
theorem Auw {cx:Cx} {gh:Gh} {st:St}: ∀ {ms:List Nat} {ps:List PV} {vals:List Value} {outs:List RV} {g:Ac} {us:List (Nat×Sg)},VRl cx gh st ps vals→MOa g ms outs vals→Jf ms ps outs=some us→(∀u,u∈us→u.1∈st.live)→
  ∃fs:List (Nat×Ac),UF gh us fs∧(fs.map fun p=>p.2).Pairwise Ac.apart∧ ∀p,p∈fs→p.2.sub g
 |ms,[],[],outs,g,us,_,hm,h,_=>by
  simp only[MOa]at hm
  subst hm
  simp[Jf]at h;subst h
  exact⟨[],trivial,.nil,fun p hp=>by cases hp⟩
 |ms,p::ps,v::vals,outs,g,us,hv,hm,h,hl=>by
  cases p with
  |v a xs=>
   simp only[Jf]at h
   simp only[MOa]at hm
   split at h
   ·rename_i h1
    rw[h1]at hm
    cases outs with
    |nil=>cases h
    |cons o os=>
     simp only at hm h
     obtain⟨hao,h⟩:=A2 h
     obtain⟨u,hu,h⟩:=Ah h
     obtain⟨w,hw,h⟩:=Ah h
     simp at h;subst h
     obtain⟨p1,q1,hp,ho,hr⟩:=hm
     have hao:a=o.1:=by simpa using hao
     obtain⟨oa,oy⟩:=o
     simp only at hao hu
     subst hao
     have key: ∃fs:List (Nat×Ac),UF gh u fs∧(fs.map fun p=>p.2).Pairwise Ac.apart∧ ∀p,p∈fs→p.2.sub p1:=by
      have hl1: ∀z,z∈u→z.1∈st.live:=fun z hz=>hl z (by simp[hz])
      cases a with
      |true=>
       obtain⟨vs,e,hc⟩:=hv.1
       obtain⟨vs',e',hos⟩:=ho
       rw[e]at e'
       injection e' with e'
       have e2:vs=vs':=by have:=congrArg Array.toList e';simpa using this
       subst e2
       exact Auv hc hos hu hl1
      |false=>exact Auv (vs:=[v]) hv.1 ho hu hl1
     obtain⟨fs1,a1,a2,a3⟩:=key
     obtain⟨fs2,b1,b2,b3⟩:=Auw hv.2 hr hw (fun z hz=>hl z (by simp[hz]))
     refine⟨fs1++fs2,a1.app b1,?_,fun z hz=>?_⟩
     ·rw[List.map_append]
      refine List.pairwise_append.2 ⟨a2,b2,fun x hx y hy=>?_⟩
      obtain⟨x',hx',rfl⟩:=List.mem_map.1 hx
      obtain⟨y',hy',rfl⟩:=List.mem_map.1 hy
      exact Ac.apart_sub ((List.pairwise_cons.1 hp.1).1 q1 (by simp)) (a3 x' hx') (b3 y' hy')
     ·rcases List.mem_append.1 hz with q|q
      ·exact Ac.sub_trans (a3 z q) (hp.2 p1 (by simp))
      ·exact Ac.sub_trans (b3 z q) (hp.2 q1 (by simp))
   ·rename_i h1
    have hm':MOa g ms.tail outs vals:=by
     split at hm
     ·exact absurd ‹ms.headD 0=1› h1
     ·exact hm.elim
     ·exact hm
    exact Auw hv.2 hm' h hl
  |any=>simp[Jf]at h
  |box _ _=>simp[Jf]at h
  |el _ _ _=>simp[Jf]at h
  |tup _=>simp[Jf]at h
 |_,[],_::_,_,_,_,hv,_,_,_=>hv.elim
 |_,_::_,[],_,_,_,hv,_,_,_=>hv.elim
theorem A9t {cx:Cx} {w:World} {gh:Gh} {st:St} (hM:RM cx gh st w) {a:Bool} {xs:List Cl} {v:Value} {live live' e:List Nat} (hsub: ∀t,t∈live→t∈st.live) (hnd:live.Nodup) (hc:VRv cx gh st a xs v) (h:Ls xs=some e) (he:eat live e=some live'):
  ∃f,OVv f (strip (a,xs)) v∧(∀t,t∈live'→t∈live)∧live'.Nodup∧ ∀b o,f b=some o→ ∃t,t∈live∧t∉live'∧gh.F t b=some o:=by
 have hst: ∀ {xs:List Cl} {vs:List Value} {f:Ac},OCs f xs vs→OVs f (xs.map fun c=>⟨c.sh,c.val⟩) vs:=by
  intro xs
  induction xs with
  |nil=>intro vs f h;cases vs with|nil=>trivial|cons _ _=>exact h.elim
  |cons x xs ih=>intro vs f h;cases vs with
   |nil=>exact h.elim
   |cons v vs=>obtain⟨p,q,h1,h2,h3⟩:=h;exact⟨p,q,h1,h2,ih h3⟩
 cases a with
 |true=>
  obtain⟨us,e,hcs⟩:=hc
  obtain⟨f,o1,s1,n1,u1⟩:=Ok hM hsub hnd hcs h he
  exact⟨f,⟨us,e,hst o1⟩,s1,n1,u1⟩
 |false=>
  obtain⟨f,o1,s1,n1,u1⟩:=Ok hM hsub hnd (show CRs cx gh st xs [v]from hc) h he
  exact⟨f,hst o1,s1,n1,u1⟩
theorem Aux {cx:Cx} {w:World} {gh:Gh} {st:St} (hM:RM cx gh st w) {f1 f2:Ac} {live l1 live':List Nat} (hsub: ∀t,t∈live→t∈st.live) (s1: ∀t,t∈l1→t∈live) (s2: ∀t,t∈live'→t∈l1)
  (u1: ∀b o,f1 b=some o→ ∃t,t∈live∧t∉l1∧gh.F t b=some o) (u2: ∀b o,f2 b=some o→ ∃t,t∈l1∧t∉live'∧gh.F t b=some o):
  Db (f1.join f2) [f1,f2]∧ ∀b o,(f1.join f2) b=some o→ ∃t,t∈live∧t∉live'∧gh.F t b=some o:=by
 have hap:f1.apart f2:=fun b=>by
  cases e1:f1 b with
  |none=>exact .inl rfl
  |some o=>
   right
   cases e2:f2 b with
   |none=>rfl
   |some o'=>
    obtain⟨t,ht,ht',hF⟩:=u1 b o e1
    obtain⟨t2,hu,hu',hF'⟩:=u2 b o' e2
    have hne:t≠t2:=fun e=>ht' (e▸hu)
    rcases hM.apart t t2 (hsub t ht) (hsub t2 (s1 t2 hu)) hne b with h|h
    ·rw[h]at hF;cases hF
    ·rw[h]at hF';cases hF'
 refine⟨Db.two hap,fun b o hb=>?_⟩
 cases e1:f1 b with
 |some o'=>
  simp[Ac.join,e1]at hb;subst hb
  obtain⟨t,ht,ht',hF⟩:=u1 b _ e1
  exact⟨t,ht,fun hm=>ht' (s2 t hm),hF⟩
 |none=>
  simp[Ac.join,e1]at hb
  obtain⟨t,ht,ht',hF⟩:=u2 b _ hb
  exact⟨t,s1 t ht,ht',hF⟩
def RdP (G:Az):List Nat→List PV→List Value→Prop
 |_,[],[]=>True
 |ms,p::ps,v::vs=>(ms.headD 0=0→ ∀a xs,p= .v a xs→RVv G (strip (a,xs)) v)∧RdP G ms.tail ps vs
 |_,_,_=>False
theorem Aqp {G:Az} {cx:Cx} {w:World} {gh:Gh} {st:St} (hM:RM cx gh st w): ∀ {ms:List Nat} {ps:List PV} {vals:List Value} {vs:List RV} {gv:List Nat×List Nat} {live live':List Nat},(∀t,t∈live→t∈st.live)→live.Nodup→
  VRl cx gh st ps vals→RdP G ms ps vals→Co st ms ps=some vs→Je ms ps=some gv→eat live gv.2=some live'→
  ∃fr,AVa G fr ms vs vals∧(∀t,t∈live'→t∈live)∧live'.Nodup∧ ∀b o,fr b=some o→ ∃t,t∈live∧t∉live'∧gh.F t b=some o
 |ms,[],[],vs,gv,live,live',hs,hn,_,_,hr,hg,he=>by
  simp[Co]at hr;subst hr
  simp[Je]at hg;subst hg
  simp[eat]at he;subst he
  exact⟨Ac.emp,trivial,fun _ h=>h,hn,fun b o h=>by cases h⟩
 |ms,p::ps,v::vals,vs,gv,live,live',hs,hn,hv,hrp,hr,hg,he=>by
  cases p with
  |v a xs=>
   simp only[Co]at hr
   cases h3:Nat.beq (ms.headD 0) 3 with
   |true=>rw[h3]at hr;cases hr
   |false=>
    rw[h3]at hr
    obtain⟨l,hl,hr⟩:=Ah (show ob (Co st ms.tail ps) (fun l=>some (strip (a,xs)::l))=some vs from hr)
    simp at hr;subst hr
    simp only[Je]at hg
    obtain⟨p',hp',hg⟩:=Ah hg
    have zero:ms.headD 0=0→p'=gv→ ∃fr,AVa G fr ms (strip (a,xs)::l) (v::vals)∧(∀t,t∈live'→t∈live)∧live'.Nodup∧ ∀b o,fr b=some o→ ∃t,t∈live∧t∉live'∧gh.F t b=some o:=fun hz hpg=>by
     subst hpg
     obtain⟨fr,k1,k2,k3,k4⟩:=Aqp hM hs hn hv.2 hrp.2 hl hp' he
     refine⟨fr,⟨Ac.emp,fr,⟨List.pairwise_cons.2 ⟨fun x _=>Ac.emp_apart x,List.pairwise_singleton _ _⟩,fun x hx=>?_⟩,?_,k1⟩,k2,k3,k4⟩
     ·simp at hx
      rcases hx with rfl|rfl
      ·exact Ac.emp_sub _
      ·exact Ac.sub_refl _
     ·rw[hz];exact hrp.1 hz a xs rfl
    have given: ∀g,Ls xs=some g→gv.2=g++p'.2→(∀f,OVv f (strip (a,xs)) v→AV1 G f (ms.headD 0) (strip (a,xs)) v)→ ∃fr,AVa G fr ms (strip (a,xs)::l) (v::vals)∧(∀t,t∈live'→t∈live)∧live'.Nodup∧ ∀b o,fr b=some o→ ∃t,t∈live∧t∉live'∧gh.F t b=some o:=fun g hgx hgv hav=>by
     rw[hgv]at he
     obtain⟨l1,he1,he2⟩:=Rn he
     obtain⟨f1,o1,s1,n1,u1⟩:=A9t hM hs hn hv.1 hgx he1
     obtain⟨f2,o2,s2,n2,u2⟩:=Aqp hM (fun t ht=>hs t (s1 t ht)) n1 hv.2 hrp.2 hl hp' he2
     obtain⟨hP,hU⟩:=Aux hM hs s1 s2 u1 u2
     exact⟨f1.join f2,⟨f1,f2,hP,hav f1 o1,o2⟩,fun t ht=>s1 t (s2 t ht),n2,hU⟩
    split at hg
    ·rename_i hz;simp at hg;exact zero hz hg
    ·rename_i hz
     obtain⟨g,hgx,hg⟩:=Ah hg
     simp at hg;subst hg
     exact given g hgx rfl (fun f hf=>by rw[hz];exact hf)
    ·rename_i hz
     obtain⟨g,hgx,hg⟩:=Ah hg
     simp at hg;subst hg
     exact given g hgx rfl (fun f hf=>by rw[hz];exact hf)
    ·cases hg
  |any=>simp[Je]at hg
  |box _ _=>simp[Je]at hg
  |el _ _ _=>simp[Je]at hg
  |tup _=>simp[Je]at hg
 |_,[],_::_,_,_,_,_,_,_,hv,_,_,_,_=>hv.elim
 |_,_::_,[],_,_,_,_,_,_,hv,_,_,_,_=>hv.elim
end Go.Proofs.YtmhhajdeafijmaaGreat
namespace Go.Proofs.YtmhhajdeafijmaaGreat
open Go.RowKit
set_option linter.unusedVariables false
set_option linter.unusedSectionVars false
set_option linter.unusedSimpArgs false

theorem Acc: ∀ {l:List Nat},Qf l=true→l.Nodup
 |[],_=>List.nodup_nil
 |t::r,h=>by
  simp only[Qf,Bool.and_eq_true,Bool.not_eq_true']at h
  refine List.nodup_cons.2 ⟨fun hm=>?_,Acc h.2⟩
  rw[List.contains_iff_mem.2 hm]at h;cases h.1
theorem Lv: ∀ {l live live':List Nat},eat live l=some live'→live.Nodup→(∀t,t∈live'↔t∈live∧t∉l)∧ ∀t,t∈l→t∈live
 |[],live,live',h,hn=>by simp[eat]at h;subst h;exact⟨fun t=>by simp,fun t h=>by cases h⟩
 |x::l,live,live',h,hn=>by
  simp only[eat]at h
  cases hc:live.contains x with
  |false=>rw[hc]at h;cases h
  |true=>
   rw[hc]at h
   obtain⟨h1,h3⟩:=Lv h (hn.erase _)
   have hx:x∈live:=by simpa using hc
   refine⟨fun t=>?_,fun t ht=>?_⟩
   ·rw[h1,hn.mem_erase_iff,List.mem_cons]
    constructor
    ·rintro⟨⟨a,b⟩,c⟩;exact⟨b,fun h=>h.elim a c⟩
    ·rintro⟨a,b⟩;exact⟨⟨fun e=>b (.inl e),a⟩,fun e=>b (.inr e)⟩
   ·rcases List.mem_cons.1 ht with e|ht'
    ·rw[e];exact hx
    ·exact List.mem_of_mem_erase (h3 t ht')
theorem A3j: ∀ {l live:List Nat},live.Nodup→l.Nodup→(∀t,t∈l→t∈live)→ ∃live',eat live l=some live'
 |[],live,_,_,_=>⟨live,rfl⟩
 |x::l,live,hn,hl,hm=>by
  have hx:live.contains x=true:=by simpa using hm x (by simp)
  have hl':=List.nodup_cons.1 hl
  obtain⟨live',h⟩:=A3j (hn.erase x) hl'.2 (fun t ht=>hn.mem_erase_iff.2 ⟨fun e=>hl'.1 (e▸ht),hm t (by simp[ht])⟩)
  exact⟨live',by simp only[eat,hx,cond_true];exact h⟩
theorem As6 {cx:Cx} {w w':World} (h:Moved cx.f0 cx.w0 w) {f:Ac} (hm:Moved f w w') (hf: ∀b o,f b=some o→E6 cx b):Moved cx.f0 cx.w0 w':=
 ⟨hm.os.trans h.os,hm.tape.trans h.tape,hm.output.trans h.output,Nat.le_trans h.size hm.size,fun k hk h0=>by
  rw[hm.block k (Nat.lt_of_lt_of_le hk h.size) ?_,h.block k hk h0]
  cases e:f k with
  |none=>rfl
  |some o=>
   rcases hf k o e with q|q
   ·omega
   ·rw[h0]at q;cases q⟩
section
variable {P:Program} {g:Cfg} (hC:CfgOk P g) {cx:Cx} {gh:Gh} {st:St} {a:Act} {w:World} {nt:Nat} (hM:RM cx gh st w) (hE:Env nt cx gh st a)
 {o:Oper} {ρ:Type} {k:PV→Ef→Option ρ} {r:ρ} {next:Act→World→Prop} {Q:Exit→Act→World→Prop}
 (hk: ∀pv ef,k pv ef=some r→ ∃st',ef.app o.dst st=some st')
 (hn: ∀gh' pv ef st' v w',k pv ef=some r→ef.app o.dst st=some st'→RM cx gh' st' w'→Env nt cx gh' st' a→VR cx gh' st' pv v→next (a.put o.dst v) w')
include hC hM hE hk hn
theorem A9u {t:Nat} {x y:Operand} (ho:o.op= .store t x y) (h:(ob (g.ty t) fun T=>ob (evO g.ty st t x) fun p=>ob (evO g.ty st t y) fun q=>
  match p,q with
  | .box b off,.v _ xs=>chk (Nat.beq xs.length T.shs.length) (k .any (.setBox b off xs))
  | .el (some p) _ _,.v _ xs=>chk (Nat.beq xs.length T.shs.length && Nat.ble (p.off+xs.length) p.cs.length) (ob (Mn p.cs p.d p.off xs) fun d'=>ob (Ls xs) fun a=>
   k .any (.rs a [] [(p.t,⟨.sl p.e p.cs,p.l.set p.i d'⟩)]))
  |_,_=>none)=some r):o.wp P a w next Q:=by
 obtain⟨T,hT,h⟩:=Ah h
 obtain⟨p,hp,h⟩:=Ah h
 obtain⟨q,hq,h⟩:=Ah h
 have hok:=hC.ty t T hT
 have hvp:=Gu hE hp
 have hvq:=Gu hE hq
 obtain⟨i,z,d,i1,i2,i3,i4,i5,i6⟩:=hok.inf
 have hsame: ∀ad,storeVar t ad (a.eval y)=storeVar t ad (.agg (a.eval y).cells):=fun ad=>by
  have hcc:(Value.agg (a.eval y).cells).cells=(a.eval y).cells:=rfl
  unfold storeVar;rw[hcc]
 split at h
 ·rename_i b off ag xs _
  obtain⟨hl,h⟩:=A2 h
  have hl1:=Nat.eq_of_beq_eq_true hl
  obtain⟨st',hst⟩:=hk _ _ h
  have hst0:=hst
  obtain⟨cs,hc,hst0⟩:=Ah hst0
  obtain⟨hl2,hst0⟩:=A2 hst0
  have hl2:=Nat.le_of_ble_eq_true hl2
  simp at hst0
  subst hst0
  obtain⟨vs,e,h1,h2,h3⟩:=hM.box b cs hc
  have hcs:=VRv.cells hvq
  obtain⟨m,ex⟩:=hM.setBox hc h1 h3 hcs hl2
  refine Az4 (w':=w.setCells (gh.B b) off (a.eval y).cells.toList) ?_ (hn _ _ _ _ undef _ h hst m (hE.ext' ex rfl) (show VR cx _ _ .any _ from trivial))
  unfold execOp;rw[ho]
  have hlen:(a.eval y).cells.size=T.shs.length:=by rw[←hl1,hcs.len];simp
  have hst:(storeVar t ⟨gh.B b,off,none⟩ (.agg (a.eval y).cells)).run P w= .ok () (w.setCells (gh.B b) off (a.eval y).cells.toList):=by
   refine run_storeVar_mid w _ _ _ _ (fun j hj=>?_) (by rw[i1];simp[i2,hlen]) (Array.all_eq_true_iff_forall_mem.2 fun v hv=>hcs.one v (by simpa using hv))
   rw[cell_of_row _ _ _ _ _ _ h1,frozen_of_row _ _ _ _ _ h1]
   have:off+j<vs.length:=by rw[←h3.len];have:=hcs.len;simp at this;omega
   simp[this]
  simp only[hvp.2,Instr.storeAt,Instr.sureAddr,Sem.run_bind,Sem.run_pure,Result.andThen_ok,hsame,hst]
 ·rename_i p ro ys ag xs _
  obtain⟨hl,h⟩:=A2 h
  simp only[Bool.and_eq_true]at hl
  have hl1:=Nat.eq_of_beq_eq_true hl.1
  have hfit:=Nat.le_of_ble_eq_true hl.2
  obtain⟨d',hd',h⟩:=Ah h
  obtain⟨ate,hate,h⟩:=Ah h
  obtain⟨st',hst⟩:=hk _ _ h
  obtain⟨live',heat,hkeys,_,hst2⟩:=Afp hst
  have hst3:st'=G6 st live' [(p.t,⟨.sl p.e p.cs,p.l.set p.i d'⟩)]:=by rw[hst2];rfl
  clear hst2
  subst hst3
  have htl:p.t∈live':=hkeys (p.t,⟨.sl p.e p.cs,p.l.set p.i d'⟩) (by simp)
  have hcs:=VRv.cells hvq
  obtain⟨f,o1,o2,o3,o4⟩:=Ok hM (fun _ h=>h) hM.nodup hcs hate heat
  obtain⟨b,off,hv,_,hpl⟩:=hvp
  obtain⟨_,hpl⟩:=hpl
  obtain⟨⟨e1,e2,e3,e4⟩,n,cap,hV,hoff⟩:=hpl (o2 _ htl)
  have hap:(gh.F p.t).apart f:=fun bb=>by
   cases e:f bb with
   |none=>exact .inr rfl
   |some ob=>
    left
    obtain⟨u,u1,u2,u3⟩:=o4 bb ob e
    have hne:p.t≠u:=fun e=>u2 (e▸htl)
    rcases hM.apart p.t u (o2 _ htl) u1 hne bb with q|q
    ·exact q
    ·rw[q]at u3;cases u3
  have hlen:(a.eval y).cells.toList.length=xs.length:=hcs.len.symm
  obtain⟨b',n',cap',cur,k1,k2,k3,k4⟩:=A4.setElem e1 e4 o1 hd' hap (by rw[hlen];exact hfit)
  rw[hV]at k1
  cases k1
  subst hoff
  have hblk:=(hM.tok p.t (o2 _ htl)).2.1 b _ k2
  have hmb:=(hM.tok p.t (o2 _ htl)).2.2 b _ k2
  have hsp:w.setCells b (p.i*p.cs.length+p.off) (a.eval y).cells.toList=w.setRow b (Bi cur.toList (p.i*p.cs.length+p.off) (a.eval y).cells.toList).toArray:=by
   rw[Ab4 b p.e (a.eval y).cells.toList (p.i*p.cs.length+p.off) cur w hblk k3]
   rfl
  have hoth: ∀bb ob,bb≠b→w.heap[bb]? =some ob→(w.setRow b (Bi cur.toList (p.i*p.cs.length+p.off) (a.eval y).cells.toList).toArray).heap[bb]? =some ob:=fun bb ob hne hw=>by
   rw[setRow_other w b bb _ hne];exact hw
  have hTn:Turn cx gh st w (w.setRow b (Bi cur.toList (p.i*p.cs.length+p.off) (a.eval y).cells.toList).toArray) live' [(p.t,⟨.sl p.e p.cs,p.l.set p.i d'⟩)]
    (fun u=>if u=p.t then(Ac.one b (.cells (Bi cur.toList (p.i*p.cs.length+p.off) (a.eval y).cells.toList).toArray p.e (0,0))).join ((gh.F p.t).join f)else gh.F u):=by
   have hlook: ∀u,Dh u [(p.t,(⟨.sl p.e p.cs,p.l.set p.i d'⟩:Sg))]=if u=p.t then some ⟨.sl p.e p.cs,p.l.set p.i d'⟩else none:=fun u=>by
    simp only[Dh]
    by_cases hu:u=p.t
    ·subst hu;simp
    ·have:Nat.beq u p.t=false:=by
      cases hb:Nat.beq u p.t with
      |false=>rfl
      |true=>exact(hu (Nat.eq_of_beq_eq_true hb)).elim
     rw[this,if_neg hu];rfl
   have hfb:f b=none:=(hap b).resolve_left (by rw[k2];simp)
   have hliesf:Ba f w:=fun bb ob hb=>by
    obtain⟨u,u1,_,u3⟩:=o4 bb ob hb
    exact(hM.tok u u1).2.1 bb ob u3
   have hblock: ∀bb ob,((Ac.one b (.cells (Bi cur.toList (p.i*p.cs.length+p.off) (a.eval y).cells.toList).toArray p.e (0,0))).join ((gh.F p.t).join f)) bb=some ob→(bb=b∧ob= .cells (Bi cur.toList (p.i*p.cs.length+p.off) (a.eval y).cells.toList).toArray p.e (0,0))∨(bb≠b∧(gh.F p.t bb=some ob∨f bb=some ob)):=fun bb ob hb=>by
    by_cases hbb:bb=b
    ·left
     subst hbb
     simp[Ac.join,Ac.one]at hb
     exact⟨rfl,hb.symm⟩
    ·right
     refine⟨hbb,?_⟩
     simp only[Ac.join,Ac.one,hbb,if_false,Option.none_or]at hb
     cases e:gh.F p.t bb with
     |some x=>rw[e]at hb;simp at hb;exact .inl (by rw[hb])
     |none=>rw[e]at hb;simp at hb;exact .inr hb
   refine⟨hM.moved.row hmb _,o2,o3,hkeys,fun u hu hlu=>?_,fun u s hlu=>?_,fun u u' hu hu' hne=>?_,fun u kk hu hkk=>?_,fun kk hkk=>?_⟩
   ·rw[hlook]at hlu
    split at hlu
    ·cases hlu
    ·rename_i hne
     refine⟨by simp[hne],fun bb ob hb=>hoth bb ob (fun e=>?_) ((hM.tok u (o2 u hu)).2.1 bb ob hb)⟩
     subst e
     rcases hM.apart u p.t (o2 u hu) (o2 _ htl) hne bb with q|q
     ·rw[q]at hb;cases hb
     ·rw[k2]at q;cases q
   ·rw[hlook]at hlu
    split at hlu
    ·rename_i hu
     subst hu
     simp at hlu;subst hlu
     simp only[if_true]
     refine⟨fun bb ob hb=>?_,fun bb ob hb=>?_,k4,e3,rfl⟩
     ·rcases hblock bb ob hb with⟨rfl,rfl⟩|⟨hbb,q|q⟩
      ·exact setRow_heap w _ _ _ p.e (0,0) hblk
      ·exact hoth bb ob hbb ((hM.tok p.t (o2 _ htl)).2.1 bb ob q)
      ·exact hoth bb ob hbb (hliesf bb ob q)
     ·rcases hblock bb ob hb with⟨rfl,rfl⟩|⟨hbb,q|q⟩
      ·exact hmb
      ·exact(hM.tok p.t (o2 _ htl)).2.2 bb ob q
      ·obtain⟨u,u1,_,u3⟩:=o4 bb ob q
       exact(hM.tok u u1).2.2 bb ob u3
    ·cases hlu
   ·have key: ∀u,u∈live'→u≠p.t→(gh.F u).apart ((Ac.one b (.cells (Bi cur.toList (p.i*p.cs.length+p.off) (a.eval y).cells.toList).toArray p.e (0,0))).join ((gh.F p.t).join f)):=fun u hu hne bb=>by
     cases e:((Ac.one b (.cells (Bi cur.toList (p.i*p.cs.length+p.off) (a.eval y).cells.toList).toArray p.e (0,0))).join ((gh.F p.t).join f)) bb with
     |none=>exact .inr rfl
     |some ob=>
      left
      rcases hblock bb ob e with⟨rfl,rfl⟩|⟨hbb,q|q⟩
      ·rcases hM.apart u p.t (o2 u hu) (o2 _ htl) hne bb with q|q
       ·exact q
       ·rw[k2]at q;cases q
      ·rcases hM.apart u p.t (o2 u hu) (o2 _ htl) hne bb with q'|q'
       ·exact q'
       ·rw[q]at q';cases q'
      ·obtain⟨u2,v1,v2,v3⟩:=o4 bb ob q
       have hne2:u≠u2:=fun e=>v2 (e▸hu)
       rcases hM.apart u u2 (o2 u hu) v1 hne2 bb with q'|q'
       ·exact q'
       ·rw[q']at v3;cases v3
    by_cases h1:u=p.t
    ·by_cases h2:u'=p.t
     ·exact(hne (h1.trans h2.symm)).elim
     ·simp only[h1,h2,if_true,if_false];exact Ac.apart_symm (key u' hu' h2)
    ·by_cases h2:u'=p.t
     ·simp only[h1,h2,if_true,if_false];exact key u hu h1
     ·simp only[h1,h2,if_false];exact hM.apart u u' (o2 u hu) (o2 u' hu') hne
   ·by_cases h1:u=p.t
    ·simp only[h1,if_true]
     cases e:((Ac.one b (.cells (Bi cur.toList (p.i*p.cs.length+p.off) (a.eval y).cells.toList).toArray p.e (0,0))).join ((gh.F p.t).join f)) (gh.B kk)with
     |none=>rfl
     |some ob=>
      exfalso
      rcases hblock _ ob e with⟨q,_⟩|⟨hbb,q|q⟩
      ·have:=hM.tokBox p.t kk (o2 _ htl) hkk
       rw[q,k2]at this;cases this
      ·rw[hM.tokBox p.t kk (o2 _ htl) hkk]at q;cases q
      ·obtain⟨u2,v1,v2,v3⟩:=o4 _ ob q
       rw[hM.tokBox u2 kk v1 hkk]at v3;cases v3
    ·simp only[h1,if_false];exact hM.tokBox u kk (o2 u hu) hkk
   ·obtain⟨vs,e,q1,_⟩:=hM.box kk _ (Fj hkk).choose_spec
    rw[setRow_other w b _ _ (fun e=>by
     have:=hM.tokBox p.t kk (o2 _ htl) hkk
     rw[e,k2]at this;cases this)]
  refine Az4 (w':=w.setCells b (p.i*p.cs.length+p.off) (a.eval y).cells.toList) ?_ ?_
  ·unfold execOp;rw[ho]
   have hlen2:(a.eval y).cells.size=T.shs.length:=by rw[←hl1,hcs.len];simp
   have hst:(storeVar t ⟨b,p.i*p.cs.length+p.off,none⟩ (.agg (a.eval y).cells)).run P w= .ok () (w.setCells b (p.i*p.cs.length+p.off) (a.eval y).cells.toList):=by
    refine run_storeVar_mid w _ _ _ _ (fun j hj=>?_) (by rw[i1];simp[i2,hlen2]) (Array.all_eq_true_iff_forall_mem.2 fun v hv=>hcs.one v (by simpa using hv))
    rw[cell_of_row _ _ _ _ _ _ hblk,frozen_of_row _ _ _ _ _ hblk]
    have:p.i*p.cs.length+p.off+j<cur.size:=by simp at k3 hj;omega
    simp[this]
   simp only[hv,Instr.storeAt,Instr.sureAddr,Sem.run_bind,Sem.run_pure,Result.andThen_ok,hsame,hst]
  ·rw[hsp]
   exact hn _ _ _ _ undef _ h hst (Turn.rm hM hTn) (Turn.env hM hTn hE) trivial
 ·cases h
end
end Go.Proofs.YtmhhajdeafijmaaGreat
namespace Go.Proofs.YtmhhajdeafijmaaGreat
open Go.RowKit
set_option linter.unusedVariables false
set_option linter.unusedSectionVars false
set_option linter.unusedSimpArgs false

theorem A0g {f:Ac} {ms:List Nat} {outs:List RV} {v:Value} {vals:List Value} (hh:ms.headD 0=0) (hm:MOa f ms outs (v::vals)):MOa f ms.tail outs vals:=by
 unfold MOa at hm
 rw[hh]at hm
 cases outs<;>exact hm
theorem Bba {f:Ac} {ms:List Nat} {outs:List RV} {v:Value} {vals:List Value} (hh:ms.headD 0=1) (hm:MOa f ms outs (v::vals)): ∃o os g h,outs=o::os∧Db f [g,h]∧OVv g o v∧MOa h ms.tail os vals:=by
 unfold MOa at hm
 rw[hh]at hm
 cases outs with
 |nil=>exact hm.elim
 |cons o os=>obtain⟨g,h,h1,h2,h3⟩:=hm;exact⟨o,os,g,h,rfl,h1,h2,h3⟩
theorem A7u {G:Az} {cx:Cx} {g:Gh} {st:St} {x:Cl}: ∀ {ms:List Nat} {ps:List PV} {vals:List Value} {rs:List RV},Ie ms ps=some x→VRl cx g st ps vals→RdP G ms ps vals→Co st ms ps=some rs→
  ∃v,CR cx g st x v∧(∀f,A4 f x.sh x.val v→AVa G f ms rs vals)∧ ∀f outs,MOa f ms outs vals→ ∃o,outs=[o]∧OVv f o v:=by
 have Ab5: ∀ {ms:List Nat} {ps:List PV} {vals:List Value} {rs:List RV},(ms.all fun m=>Nat.beq m 0)=true→VRl cx g st ps vals→RdP G ms ps vals→Co st ms ps=some rs→(∀f,AVa G f ms rs vals)∧ ∀f outs,MOa f ms outs vals→outs=[]:=by
  intro ms ps
  induction ps generalizing ms with
  |nil=>
   intro vals rs hz hv hrp hr
   cases vals with
   |cons _ _=>exact hv.elim
   |nil=>simp[Co]at hr;subst hr;exact⟨fun f=>trivial,fun f outs h=>h⟩
  |cons p ps ih=>
   intro vals rs hz hv hrp hr
   cases vals with
   |nil=>exact hv.elim
   |cons v vals=>
   have hh:ms.headD 0=0:=by
    cases ms with
    |nil=>rfl
    |cons m r=>simp only[List.all_cons,Bool.and_eq_true]at hz;exact Nat.eq_of_beq_eq_true hz.1
   have ht:(ms.tail.all fun m=>Nat.beq m 0)=true:=by
    cases ms with
    |nil=>rfl
    |cons m r=>simp only[List.all_cons,Bool.and_eq_true]at hz;exact hz.2
   cases p with
   |v a xs=>
    simp only[Co,hh]at hr
    obtain⟨l,hl,hr⟩:=Ah (show ob (Co st ms.tail ps) (fun l=>some (strip (a,xs)::l))=some rs from hr)
    simp at hr;subst hr
    obtain⟨k1,k2⟩:=ih ht hv.2 hrp.2 hl
    refine⟨fun f=>⟨Ac.emp,f,⟨List.pairwise_cons.2 ⟨fun x _=>Ac.emp_apart x,List.pairwise_singleton _ _⟩,fun x hx=>?_⟩,?_,k1 f⟩,fun f outs hm=>?_⟩
    ·simp at hx
     rcases hx with rfl|rfl
     ·exact Ac.emp_sub _
     ·exact Ac.sub_refl _
    ·rw[hh];exact hrp.1 hh a xs rfl
    ·exact k2 f outs (A0g hh hm)
   |box b o=>
    cases o with
    |zero=>
     have h':(none:Option (List RV))=some rs:=by rw[←hr];simp only[Co,hh];rfl
     cases h'
    |succ o=>simp[Co]at hr
   |any=>simp[Co]at hr
   |el _ _ _=>simp[Co]at hr
   |tup _=>simp[Co]at hr
 intro ms ps
 induction ps generalizing ms with
 |nil=>intro vals rs hx;simp[Ie]at hx
 |cons p ps ih=>
  intro vals rs hx hv hrp hr
  cases vals with
  |nil=>exact hv.elim
  |cons v vals=>
  cases p with
  |v a xs=>
   have skip:ms.headD 0=0→Ie ms.tail ps=some x→ ∃u,CR cx g st x u∧(∀f,A4 f x.sh x.val u→AVa G f ms rs (v::vals))∧ ∀f outs,MOa f ms outs (v::vals)→ ∃o,outs=[o]∧OVv f o u:=fun hh hx=>by
    simp only[Co,hh]at hr
    obtain⟨l,hl,hr⟩:=Ah (show ob (Co st ms.tail ps) (fun l=>some (strip (a,xs)::l))=some rs from hr)
    simp at hr;subst hr
    obtain⟨u,k1,k2,k3⟩:=ih hx hv.2 hrp.2 hl
    refine⟨u,k1,fun f hf=>⟨Ac.emp,f,⟨List.pairwise_cons.2 ⟨fun x _=>Ac.emp_apart x,List.pairwise_singleton _ _⟩,fun x hx=>?_⟩,?_,k2 f hf⟩,fun f outs hm=>?_⟩
    ·simp at hx
     rcases hx with rfl|rfl
     ·exact Ac.emp_sub _
     ·exact Ac.sub_refl _
    ·rw[hh];exact hrp.1 hh a xs rfl
    ·exact k3 f outs (A0g hh hm)
   by_cases hone: ∃y,a=false∧xs=[y]
   ·obtain⟨y,rfl,rfl⟩:=hone
    simp only[Ie]at hx
    cases h1:Nat.beq (ms.headD 0) 1 with
    |true=>
     rw[h1]at hx
     obtain⟨hz,hx⟩:=A2 hx
     simp at hx;subst hx
     have hh:=Nat.eq_of_beq_eq_true h1
     simp only[Co,hh]at hr
     obtain⟨l,hl,hr⟩:=Ah (show ob (Co st ms.tail ps) (fun l=>some (strip (false,[y])::l))=some rs from hr)
     simp at hr;subst hr
     obtain⟨k1,k2⟩:=Ab5 hz hv.2 hrp.2 hl
     refine⟨v,hv.1.1,fun f hf=>⟨f,Ac.emp,⟨List.pairwise_cons.2 ⟨fun x hx=>by simp at hx;subst hx;exact Ac.apart_emp _,List.pairwise_singleton _ _⟩,fun x hx=>?_⟩,?_,k1 _⟩,fun f outs hm=>?_⟩
     ·simp at hx
      rcases hx with rfl|rfl
      ·exact Ac.sub_refl _
      ·exact Ac.emp_sub _
     ·rw[hh]
      exact⟨f,Ac.emp,⟨List.pairwise_cons.2 ⟨fun x hx=>by simp at hx;subst hx;exact Ac.apart_emp _,List.pairwise_singleton _ _⟩,fun x hx=>by
       simp at hx
       rcases hx with rfl|rfl
       ·exact Ac.sub_refl _
       ·exact Ac.emp_sub _⟩,hf,trivial⟩
     ·obtain⟨o,os,g1,g2,rfl,hp,ho,hr⟩:=Bba hh hm
      have:=k2 g2 os hr
      subst this
      refine⟨o,rfl,?_⟩
      have hsub:=hp.2 g1 (by simp)
      obtain⟨oa,oy⟩:=o
      have osub: ∀ {xs:List Sg} {vs:List Value} {f g:Ac},OVs f xs vs→f.sub g→OVs g xs vs:=by
       intro xs vs f g h hs
       cases xs with
       |nil=>cases vs with|nil=>trivial|cons _ _=>exact h.elim
       |cons x xs=>cases vs with
        |nil=>exact h.elim
        |cons v vs=>obtain⟨p,q,h1,h2,h3⟩:=h;exact⟨p,q,h1.sub hs,h2,h3⟩
      cases oa with
      |true=>obtain⟨vs,e,ho⟩:=ho;exact⟨vs,e,osub ho hsub⟩
      |false=>exact osub (xs:=oy) (vs:=[v]) ho hsub
    |false=>
     rw[h1]at hx
     simp only[cond_false]at hx
     cases h0:Nat.beq (ms.headD 0) 0 with
     |false=>rw[h0]at hx;cases hx
     |true=>rw[h0]at hx;exact skip (Nat.eq_of_beq_eq_true h0) hx
   ·have hx':cond (Nat.beq (ms.headD 0) 0) (Ie ms.tail ps) none=some x:=by
     unfold Ie at hx
     split at hx
     ·rename_i y _ he
      simp only[List.cons.injEq,PV.v.injEq]at he
      exact(hone ⟨y,he.1.1,he.1.2⟩).elim
     ·rename_i he
      simp only[List.cons.injEq,PV.v.injEq]at he
      obtain⟨_,rfl⟩:=he
      exact hx
     ·cases hx
    cases h0:Nat.beq (ms.headD 0) 0 with
    |false=>rw[h0]at hx';cases hx'
    |true=>rw[h0]at hx';exact skip (Nat.eq_of_beq_eq_true h0) hx'
  |any=>simp[Ie]at hx
  |box _ _=>simp[Ie]at hx
  |el _ _ _=>simp[Ie]at hx
  |tup _=>simp[Ie]at hx
end Go.Proofs.YtmhhajdeafijmaaGreat
namespace Go.Proofs.YtmhhajdeafijmaaGreat
open Go.RowKit
set_option linter.unusedVariables false
set_option linter.unusedSectionVars false
set_option linter.unusedSimpArgs false

section
variable {cx:Cx} {gh:Gh} {st:St} {w:World} (hM:RM cx gh st w) {K:List Nat} (hK: ∀t,t∈K→t∈st.live)
include hM hK
theorem Awh:D8 (El cx K gh.F gh.V gh.S) w:=fun b o x hx=>by
 rcases Ij hx with h|⟨t,ht,h,_⟩
 ·exact hM.lies _ _ _ (hM.g0 _ _ _ h)
 ·exact Ba.cell (hM.tok t (hK t ht)).2.1 h
theorem A3k {b o:Nat} {x:Value} (h:Aiu cx K gh.F gh.V gh.S b o x):El cx K gh.F gh.V gh.S b o=some x:=
 Aiv (w:=w) (fun b o x h=>by
  rcases h with h|⟨t,ht,h,_⟩
  ·exact hM.lies _ _ _ (hM.g0 _ _ _ h)
  ·exact Ba.cell (hM.tok t (hK t ht)).2.1 h) h
theorem Aix: ∀ {xs:List Cl} {vs:List Value} {rd:List (Nat×Sg)},CRs cx gh st xs vs→Ana xs=some rd→(∀u,u∈rd→u.1∈K)→RVs (El cx K gh.F gh.V gh.S) (xs.map fun c=>⟨c.sh,c.val⟩) vs∧
  ∀u,u∈rd→ ∃v,A4 (gh.F u.1) u.2.sh u.2.val v∧v=gh.V u.1∧Hr u.2.sh=gh.S u.1∧Ds u.2.sh=true
 |[],[],rd,_,h,_=>by simp[Ana]at h;subst h;exact⟨trivial,fun u hu=>by cases hu⟩
 |x::xs,v::vs,rd,hc,h,hk=>by
  simp only[Ana]at h
  obtain⟨r,hr,h⟩:=Ah h
  obtain⟨sh,val,tok⟩:=x
  have hG0:cx.G0.sub (El cx K gh.F gh.V gh.S):=fun b o y hy=>A3k hM hK (.inl hy)
  obtain⟨⟨h1,h2⟩,h3⟩:=hc
  have go:(rd=r)→RdD (El cx K gh.F gh.V gh.S) sh val v→RVs (El cx K gh.F gh.V gh.S) ((⟨sh,val,tok⟩::xs).map fun c=>⟨c.sh,c.val⟩) (v::vs)∧ ∀u,u∈rd→ ∃v,A4 (gh.F u.1) u.2.sh u.2.val v∧v=gh.V u.1∧Hr u.2.sh=gh.S u.1∧Ds u.2.sh=true:=fun e hrd=>by
   subst e
   obtain⟨k1,k2⟩:=Aix h3 hr hk
   exact⟨⟨hrd,k1⟩,k2⟩
  cases hs:Ds sh with
  |false=>
   refine go ?_ (RdD.scalar hs h1)
   cases sh with
   |sl e cs=>cases hs
   |_=>simp at h;exact h.symm
  |true=>
   cases sh with
   |sl e cs=>
    cases tok with
    |ro=>simp at h;exact go h.symm (RdD.sub hG0 _ _ _ h2)
    |pin j=>simp at h;exact go h.symm (RdD.sub hG0 _ _ _ h2.1)
    |nil=>
     simp at h
     obtain⟨a,ha⟩:=h2 e cs rfl
     exact go h.symm (Aml h1 ha _)
    |own t=>
     simp at h;subst h
     have ht:=hk (t,⟨.sl e cs,val⟩) (by simp)
     obtain⟨k1,k2⟩:=Aix h3 hr (fun u hu=>hk u (by simp[hu]))
     obtain⟨q1,q2,q3,q4,q5⟩:=h2.2 (hK t ht)
     refine⟨⟨A4.rdIn (.sl e cs) (gh.F t) val v _ q1 (fun b o x hx hlt=>A3k hM hK (.inr ⟨t,ht,hx,fun n cap hvt=>?_⟩)),k1⟩,fun u hu=>?_⟩
     ·have:=hlt n cap (q3.trans hvt)
      rw[←q4];exact this
     ·rcases List.mem_cons.1 hu with e1|hu
      ·subst e1;exact⟨v,q1,q3,q4,q5⟩
      ·exact k2 u hu
    |rd=>cases h
    |row t=>cases h
    |elt _ _ _ _ _ _ _=>cases h
    |bag _ _=>cases h
    |one _ _ _=>cases h
    |nst _=>cases h
    |prt _ _ _ _ _=>cases h
   |_=>cases hs
 |[],_::_,_,h,_,_=>h.elim
 |_::_,[],_,h,_,_=>h.elim
theorem Aiy: ∀ {ms:List Nat} {ps:List PV} {vals:List Value} {rd:List (Nat×Sg)},VRl cx gh st ps vals→Qg ms ps=some rd→(∀u,u∈rd→u.1∈K)→RdP (El cx K gh.F gh.V gh.S) ms ps vals∧
  ∀u,u∈rd→ ∃v,A4 (gh.F u.1) u.2.sh u.2.val v∧v=gh.V u.1∧Hr u.2.sh=gh.S u.1∧Ds u.2.sh=true
 |ms,[],[],rd,_,h,_=>by simp[Qg]at h;subst h;exact⟨trivial,fun u hu=>by cases hu⟩
 |ms,p::ps,v::vals,rd,hv,h,hk=>by
  cases p with
  |v a xs=>
   simp only[Qg]at h
   obtain⟨q,hq,h⟩:=Ah h
   cases h0:Nat.beq (ms.headD 0) 0 with
   |true=>
    rw[h0]at h
    obtain⟨p,hp,h⟩:=Ah (show ob (Ana xs) (fun p=>some (p++q))=some rd from h)
    simp at h;subst h
    obtain⟨k1,k2⟩:=Aiy hv.2 hq (fun u hu=>hk u (by simp[hu]))
    have key:RVv (El cx K gh.F gh.V gh.S) (strip (a,xs)) v∧ ∀u,u∈p→ ∃v,A4 (gh.F u.1) u.2.sh u.2.val v∧v=gh.V u.1∧Hr u.2.sh=gh.S u.1∧Ds u.2.sh=true:=by
     cases a with
     |true=>
      obtain⟨vs,e,hc⟩:=hv.1
      obtain⟨a1,a2⟩:=Aix hM hK hc hp (fun u hu=>hk u (by simp[hu]))
      exact⟨⟨vs,e,a1⟩,a2⟩
     |false=>exact Aix hM hK (vs:=[v]) hv.1 hp (fun u hu=>hk u (by simp[hu]))
    refine⟨⟨fun _ a' xs' he=>(by cases he;exact key.1),k1⟩,fun u hu=>?_⟩
    rcases List.mem_append.1 hu with h1|h1
    ·exact key.2 u h1
    ·exact k2 u h1
   |false=>
    rw[h0]at h
    simp at h;subst h
    obtain⟨k1,k2⟩:=Aiy hv.2 hq hk
    exact⟨⟨fun hz=>(by rw[hz]at h0;cases h0),k1⟩,k2⟩
  |any=>simp[Qg]at h
  |box _ _=>simp[Qg]at h
  |el _ _ _=>simp[Qg]at h
  |tup _=>simp[Qg]at h
 |_,[],_::_,_,h,_,_=>h.elim
 |_,_::_,[],_,h,_,_=>h.elim
end
theorem Awi {cx:Cx} {gh:Gh} {st:St} {w:World} (hM:RM cx gh st w) {K:List Nat} {b:Nat} (hb:E6 cx b) (hF: ∀t,t∈K→gh.F t b=none) (o:Nat):El cx K gh.F gh.V gh.S b o=none:=by
 cases hg:El cx K gh.F gh.V gh.S b o with
 |none=>rfl
 |some x=>
  exfalso
  rcases Ij hg with h|⟨t,ht,h,_⟩
  ·obtain⟨h1,h2⟩:=hM.old b o x h
   rcases hb with q|q
   ·omega
   ·rw[h2]at q;cases q
  ·unfold Cj Ac.cell at h;rw[hF t ht]at h;cases h
theorem Awj {t:Nat} {us rd:List (Nat×Sg)}:Dh t (us++rd)=match Dh t us with|some s=>some s|none=>Dh t rd:=by
 induction us with
 |nil=>rfl
 |cons u us ih=>
  obtain⟨v,x⟩:=u
  simp only[List.cons_append,Dh]
  cases Nat.beq t v with
  |true=>rfl
  |false=>exact ih
theorem A7v {cx:Cx} {gh:Gh} {st:St} {w w':World} (hM:RM cx gh st w) {fr gm f:Ac} {live':List Nat} {us rd:List (Nat×Sg)} {fs:List (Nat×Ac)} (hsub: ∀t,t∈live'→t∈st.live) (hnd:live'.Nodup)
  (hmv:Moved fr w w') (hlg:Ba gm w') (hng:gm.newOr fr w.heap.size) (hfr: ∀b o,fr b=some o→E6 cx b∧ ∀k,st.has k=true→gh.B k≠b)
  (huf:UF gh us fs) (hpw:(fs.map fun p=>p.2).Pairwise Ac.apart) (hsg: ∀p,p∈fs→p.2.sub gm)
  (hkeys: ∀u,u∈us++rd→u.1∈live')
  (hfrF: ∀t,t∈live'→Dh t us=none→(gh.F t).apart fr)
  (hrd: ∀u,u∈rd→ ∃v,A4 (gh.F u.1) u.2.sh u.2.val v∧v=gh.V u.1∧Hr u.2.sh=gh.S u.1∧Ds u.2.sh=true)
  (hnk:(us.map fun u=>u.1).Nodup):
  Turn cx gh st w w' live' (us++rd) (fun t=>match Ky t fs with|some f=>f|none=>gh.F t):=by
 have hblk: ∀b ob,fr b=none→w.heap[b]? =some ob→w'.heap[b]? =some ob:=fun b ob hn ho=>by
  rw[hmv.block b (Array.getElem?_eq_some_iff.1 ho).1 hn];exact ho
 have hLF: ∀t,t∈live'→Dh t us=none→Ba (gh.F t) w':=fun t ht hu b ob hb=>by
  refine hblk b ob ?_ ((hM.tok t (hsub t ht)).2.1 b ob hb)
  rcases hfrF t ht hu b with q|q
  ·rw[hb]at q;cases q
  ·exact q
 have hgmine: ∀b o,gm b=some o→E6 cx b:=fun b o hb=>by
  rcases hng b o hb with q|q
  ·cases e:fr b with
   |none=>exact(q e).elim
   |some x=>exact(hfr b x e).1
  ·exact .inl (Nat.le_trans hM.moved.size q)
 have hgF: ∀t,t∈live'→Dh t us=none→(gh.F t).apart gm:=fun t ht hu b=>by
  cases e:gm b with
  |none=>exact .inr rfl
  |some o=>
   left
   rcases hng b o e with q|q
   ·rcases hfrF t ht hu b with q'|q'
    ·exact q'
    ·exact(q q').elim
   ·exact(Dv hM q).2.1 t (hsub t ht)
 have hfsk: ∀ {us:List (Nat×Sg)} {fs:List (Nat×Ac)},UF gh us fs→fs.map (fun p=>p.1)=us.map (fun u=>u.1):=by
  intro us
  induction us with
  |nil=>intro fs h;cases fs with|nil=>rfl|cons _ _=>exact h.elim
  |cons u us ih=>intro fs h;cases fs with
   |nil=>exact h.elim
   |cons p fs=>simp only[List.map_cons];rw[h.1,ih h.2.2]
 refine⟨As6 hM.moved hmv (fun b o hb=>(hfr b o hb).1),hsub,hnd,hkeys,fun t ht hlu=>?_,fun t s hlu=>?_,fun t u ht hu hne=>?_,fun t k ht hk=>?_,fun k hk=>?_⟩
 ·rw[Awj]at hlu
  cases hq:Dh t us with
  |some s=>rw[hq]at hlu;cases hlu
  |none=>
   have:=(huf.look (t:=t)).2 hq
   simp only[this]
   exact⟨trivial,hLF t ht hq⟩
 ·rw[Awj]at hlu
  cases hq:Dh t us with
  |some s'=>
   rw[hq]at hlu
   simp at hlu;subst hlu
   obtain⟨f,k1,k2,k3,k4,k5⟩:=(huf.look (t:=t)).1 _ hq
   simp only[k1]
   exact⟨hlg.sub (hsg _ k2),fun b o hb=>hgmine b o (hsg _ k2 b o hb),k3,k4,k5⟩
  |none=>
   rw[hq]at hlu
   simp only at hlu
   have h0:=(huf.look (t:=t)).2 hq
   simp only[h0]
   have hm:=Acb hlu
   have ht:t∈live':=hkeys (t,s) (List.mem_append.2 (.inr hm))
   obtain⟨v,q1,q2,q3,q4⟩:=hrd _ hm
   simp only at q1 q2 q3 q4
   exact⟨hLF t ht hq,(hM.tok t (hsub t ht)).2.2,by rw[←q2];exact q1,q3,q4⟩
 ·have look: ∀t,(∃s f,Dh t us=some s∧Ky t fs=some f∧(t,f)∈fs)∨(Dh t us=none∧Ky t fs=none):=fun t=>by
   cases hq:Dh t us with
   |some s=>obtain⟨f,k1,k2,_⟩:=(huf.look (t:=t)).1 _ hq;exact .inl ⟨s,f,rfl,k1,k2⟩
   |none=>exact .inr ⟨rfl,(huf.look (t:=t)).2 hq⟩
  rcases look t with⟨s,f,a1,a2,a3⟩|⟨a1,a2⟩
  ·rcases look u with⟨s',f',b1,b2,b3⟩|⟨b1,b2⟩
   ·simp only[a2,b2]
    have: ∀ {fs:List (Nat×Ac)},(fs.map fun p=>p.2).Pairwise Ac.apart→(fs.map fun p=>p.1).Nodup→(t,f)∈fs→(u,f')∈fs→f.apart f':=by
     intro fs
     induction fs with
     |nil=>intro _ _ h;cases h
     |cons p fs ih=>
      intro hp hn h1 h2
      simp only[List.map_cons]at hp hn
      rcases List.mem_cons.1 h1 with e1|h1
      ·rcases List.mem_cons.1 h2 with e2|h2
       ·rw[←e1]at e2
        injection e2 with e3 _
        exact(hne e3.symm).elim
       ·have:=(List.pairwise_cons.1 hp).1 f' (List.mem_map.2 ⟨_,h2,rfl⟩)
        rw[←e1]at this;exact this
      ·rcases List.mem_cons.1 h2 with e2|h2
       ·have:=(List.pairwise_cons.1 hp).1 f (List.mem_map.2 ⟨_,h1,rfl⟩)
        rw[←e2]at this;exact Ac.apart_symm this
       ·exact ih (List.pairwise_cons.1 hp).2 (List.nodup_cons.1 hn).2 h1 h2
    exact this hpw (by rw[hfsk huf];exact hnk) a3 b3
   ·simp only[a2,b2]
    exact Ac.apart_symm (Ac.apart_sub (hgF u hu b1) (Ac.sub_refl _) (hsg _ a3))
  ·rcases look u with⟨s',f',b1,b2,b3⟩|⟨b1,b2⟩
   ·simp only[a2,b2]
    exact Ac.apart_sub (hgF t ht a1) (Ac.sub_refl _) (hsg _ b3)
   ·simp only[a2,b2]
    exact hM.apart t u (hsub t ht) (hsub u hu) hne
 ·cases hq:Dh t us with
  |none=>
   simp only[(huf.look (t:=t)).2 hq]
   exact hM.tokBox t k (hsub t ht) hk
  |some s=>
   obtain⟨f,k1,k2,_⟩:=(huf.look (t:=t)).1 _ hq
   simp only[k1]
   cases e:f (gh.B k)with
   |none=>rfl
   |some o=>
    exfalso
    rcases hng _ o (hsg _ k2 _ _ e)with q|q
    ·cases e':fr (gh.B k)with
     |none=>exact q e'
     |some x=>exact(hfr _ x e').2 k hk rfl
    ·exact(Dv hM q).2.2 k hk rfl
 ·obtain⟨vs,e,q1,_⟩:=hM.box k _ (Fj hk).choose_spec
  rw[q1]
  refine hblk _ _ ?_ q1
  cases e':fr (gh.B k)with
  |none=>rfl
  |some x=>exact((hfr _ x e').2 k hk rfl).elim
end Go.Proofs.YtmhhajdeafijmaaGreat
namespace Go.Proofs.YtmhhajdeafijmaaGreat
open Go.RowKit
set_option linter.unusedVariables false
set_option linter.unusedSectionVars false
set_option linter.unusedSimpArgs false

theorem Ac.less_or {f g:Ac} (hg:g.sub f) {k:Nat} {o:Obj} (h:(f.less g) k=some o):f k=some o∧g k=none:=by
 refine⟨Ac.less_sub _ _ k o h,?_⟩
 rcases Ac.less_apart f g k with q|q
 ·rw[h]at q;cases q
 ·exact q
theorem Awk: ∀ {xs:List Cl} {ys:List Sg} {l:List Nat} {u:List (Nat×Sg)},Ls xs=some l→Ad8 xs ys=some u→(u.map fun u=>u.1).Sublist l
 |[],[],l,u,h,k=>by simp[Ls]at h;simp[Ad8]at k;subst h k;exact .slnil
 |x::xs,y::ys,l,u,h,k=>by
  simp only[Ls]at h
  obtain⟨l1,h1,h⟩:=Ah h
  obtain⟨l2,h2,h⟩:=Ah h
  simp at h;subst h
  simp only[Ad8]at k
  obtain⟨r,hr,k⟩:=Ah k
  have ih:=Awk h2 hr
  split at k
  ·rename_i e cs t d
   obtain⟨_,k⟩:=A2 k
   simp at k;subst k
   simp[Qd]at h1;subst h1
   exact ih.cons_cons t
  ·rename_i hno
   simp at k;subst k
   exact ih.trans (List.sublist_append_right _ _)
 |[],_::_,_,_,_,k=>by simp[Ad8]at k
 |_::_,[],_,_,_,k=>by simp[Ad8]at k
theorem Aqq: ∀ {ms:List Nat} {ps:List PV} {outs:List RV} {gv:List Nat×List Nat} {us:List (Nat×Sg)},Je ms ps=some gv→Jf ms ps outs=some us→(us.map fun u=>u.1).Sublist gv.2
 |ms,[],[],gv,us,h,k=>by simp[Jf]at k;subst k;simp
 |ms,p::ps,outs,gv,us,h,k=>by
  cases p with
  |v a xs=>
   simp only[Je]at h
   obtain⟨p',hp',h⟩:=Ah h
   simp only[Jf]at k
   split at k
   ·rename_i h1
    rw[h1]at h
    cases outs with
    |nil=>cases k
    |cons o os=>
     simp only at h k
     obtain⟨l,hl,h⟩:=Ah h
     simp at h;subst h
     obtain⟨_,k⟩:=A2 k
     obtain⟨u,hu,k⟩:=Ah k
     obtain⟨w,hw,k⟩:=Ah k
     simp at k;subst k
     rw[List.map_append]
     exact(Awk hl hu).append (Aqq hp' hw)
   ·have ih:=Aqq hp' k
    split at h
    ·simp at h;subst h;exact ih
    ·obtain⟨l,hl,h⟩:=Ah h
     simp at h;subst h
     exact ih.trans (List.sublist_append_right _ _)
    ·obtain⟨l,hl,h⟩:=Ah h
     simp at h;subst h
     exact ih.trans (List.sublist_append_right _ _)
    ·cases h
  |any=>simp[Jf]at k
  |box _ _=>simp[Jf]at k
  |el _ _ _=>simp[Jf]at k
  |tup _=>simp[Jf]at k
 |_,[],_::_,_,_,_,k=>by simp[Jf]at k
theorem A7w {ms:List Nat} {ps:List PV} {outs:List RV} {gv:List Nat×List Nat} {us:List (Nat×Sg)} (hn:gv.2.Nodup) (h:Je ms ps=some gv) (k:Jf ms ps outs=some us):(us.map fun u=>u.1).Nodup∧ ∀u,u∈us→u.1∈gv.2:=by
 have hs:=Aqq h k
 exact⟨hs.nodup hn,fun u hu=>hs.subset (List.mem_map.2 ⟨u,hu,rfl⟩)⟩
section
variable {P:Program} {g:Cfg} (hC:CfgOk P g) {cx:Cx} {gh:Gh} {st:St} {a:Act} {w:World} {nt:Nat} (hM:RM cx gh st w) (hE:Env nt cx gh st a)
 {o:Oper} {ρ:Type} {k:PV→Ef→Option ρ} {r:ρ} {next:Act→World→Prop} {Q:Exit→Act→World→Prop}
 (hk: ∀pv ef,k pv ef=some r→ ∃st',ef.app o.dst st=some st')
 (hn: ∀gh' pv ef st' v w',k pv ef=some r→ef.app o.dst st=some st'→RM cx gh' st' w'→Env nt cx gh' st' a→VR cx gh' st' pv v→next (a.put o.dst v) w')
include hC hM hE hk hn
theorem A9v {f:FuncId} {as:Array Operand} {ts:Array TypeId} {ms:List Nat} (ho:o.op= .call {callee:=.value (.func f),args:=as,argTypes:=ts}) (hkd:g.kind f= .lend ms) {ps:List PV} {vs:List RV} {rd:List (Nat×Sg)}
  (hps:Kp g.ty st as.toList ts.toList=some ps) (hvs:Co st ms ps=some vs) (hrd:Qg ms ps=some rd) {s:Sh} {v:s.den} {t e:Nat} {cs:List Sh} {l:List (dens cs)} {i:Nat} {d:dens cs} {j:Nat} (hel:Ie ms ps=some ⟨s,v,.elt t e cs l i d j⟩)
  (h:((g.ctr f vs).run fun res=>match res.1,res.2 with
    |[(false,[⟨.int .i64,r⟩])],[(false,[y])]=>chk (!(rd.map fun u=>u.1).contains t) (ob (Mn cs d j [⟨y.sh,y.val,.nil⟩]) fun d'=>k (.v false [⟨.int .i64,r,.nil⟩]) (.rs [] [] ((t,⟨.sl e cs,l.set i d'⟩)::rd)))
    |_,_=>none)=some r):o.wp P a w next Q:=by
 obtain⟨res,hres,h⟩:=Tree.run_some h
 split at h
 ·rename_i rr y hr1 hr2
  obtain⟨hnt,h⟩:=A2 h
  obtain⟨d',hd',h⟩:=Ah h
  obtain⟨st',hst⟩:=hk _ _ h
  obtain⟨live',heat,hkeys,_,hst2⟩:=Afp hst
  simp[eat]at heat;subst heat
  have htl:t∈st.live:=hkeys (t,⟨.sl e cs,l.set i d'⟩) (by simp)
  have hKl: ∀u,u∈rd→u.1∈st.live:=fun u hu=>hkeys u (by simp[hu])
  have hKm: ∀t',t'∈rd.map (fun u=>u.1)→t'∈st.live:=fun t' ht'=>by obtain⟨u,hu,rfl⟩:=List.mem_map.1 ht';exact hKl u hu
  have htr:t∉rd.map (fun u=>u.1):=by simpa using hnt
  have hvl:=Afo hE hps
  obtain⟨hrp,hrd2⟩:=Aiy hM hKm hvl hrd (fun u hu=>List.mem_map.2 ⟨u,hu,rfl⟩)
  obtain⟨u,hcr,hava,hmoa⟩:=A7u hel hvl hrp hvs
  obtain⟨_,hcr2⟩:=hcr
  obtain⟨⟨e1,e2,e3,e4⟩,hca,b,n,cap,hV,hcell⟩:=hcr2.2 htl
  obtain⟨gf,u',b',n',cap',hV',hcell',hgs,hgo,hfin⟩:=A4.focus e1 e4 hca
  rw[hV]at hV'
  cases hV'
  rw[hcell]at hcell'
  cases hcell'
  have hdo:=hC.ctr f
  rw[hkd]at hdo
  have hlF:=(hM.tok t htl).2.1
  have hcall:=hdo vs res (as.toList.map a.eval) w (El cx (rd.map fun u=>u.1) gh.F gh.V gh.S) gf hres (Awh hM hKm) (hlF.sub hgs) (fun bb hbb oo=>by
   obtain⟨ob,hob⟩:=Option.isSome_iff_exists.1 hbb
   have hF:=hgs bb ob hob
   refine Awi hM ((hM.tok t htl).2.2 bb ob hF) (fun t' ht'=>?_) oo
   have hne:t'≠t:=fun e=>htr (e▸ht')
   rcases hM.apart t' t (hKm t' ht') htl hne bb with q|q
   ·exact q
   ·rw[hF]at q;cases q) (hava gf hgo)
  unfold Oper.wp
  rw[Om ho (hC.fn f vs _ hres)]
  refine hcall.mono ?_
  rintro ee w' ⟨v',ff,gm,rfl,hmv,hlf,hlg,hap,hnf,hng,hO,hm⟩
  show next (a.put o.dst v') w'
  obtain⟨o1,ho1,hoy⟩:=hmoa gm _ hm
  rw[hr2]at ho1
  simp only[List.cons.injEq,and_true]at ho1
  subst ho1
  obtain⟨p1,p2,hpp,hy,_⟩:=hoy
  have hyg:A4 gm y.sh y.val u:=A4.sub _ _ _ _ _ hy (hpp.2 p1 (by simp))
  have hless:((gh.F t).less gf).apart gm:=fun bb=>by
   cases eg:gm bb with
   |none=>exact .inr rfl
   |some ob=>
    left
    cases el:((gh.F t).less gf) bb with
    |none=>rfl
    |some ob'=>
     exfalso
     obtain⟨k1,k2⟩:=Ac.less_or hgs el
     rcases hng bb ob eg with q|q
     ·exact q k2
     ·rw[(Dv hM q).2.1 t htl]at k1;cases k1
  have hnew:=hfin gm y d' hless hyg hd'
  rw[hr1]at hO
  have hv':v'= .int .i64 rr∧(Lit.int .i64 rr).wf=true:=by
   obtain⟨q1,q2,_,q3,_⟩:=(show OVs ff [⟨.int .i64,rr⟩] [v']from hO)
   simpa only[A4] using q3
  let F1:Ac:=((gh.F t).less gf).join gm
  have hliesF1:Ba F1 w':=Ba.join (fun bb ob hb=>by
   obtain⟨k1,k2⟩:=Ac.less_or hgs hb
   rw[hmv.block bb (Array.getElem?_eq_some_iff.1 (hlF bb ob k1)).1 k2];exact hlF bb ob k1) hlg
  have hmine: ∀bb ob,gf bb=some ob→E6 cx bb∧ ∀kk,st.has kk=true→gh.B kk≠bb:=fun bb ob hb=>by
   refine⟨(hM.tok t htl).2.2 bb ob (hgs bb ob hb),fun kk hkk he=>?_⟩
   have:=hM.tokBox t kk htl hkk
   rw[he,hgs bb ob hb]at this;cases this
  have hdirect:Turn cx gh st w w' st.live (((t,⟨.sl e cs,l.set i d'⟩):Nat×Sg)::rd) (fun t'=>match Ky t' [(t,F1)]with|some f=>f|none=>gh.F t'):=by
   have hb2: ∀bb ob,gf bb=none→w.heap[bb]? =some ob→w'.heap[bb]? =some ob:=fun bb ob hnn ho=>by
    rw[hmv.block bb (Array.getElem?_eq_some_iff.1 ho).1 hnn];exact ho
   have hlook: ∀t',(match Ky t' [(t,F1)]with|some f=>f|none=>gh.F t')=if t'=t then F1 else gh.F t':=fun t'=>by
    simp only[Ky];by_cases q:t'=t<;>simp[q]
   have hlk: ∀t',Dh t' (((t,⟨.sl e cs,l.set i d'⟩):Nat×Sg)::rd)=if t'=t then some ⟨.sl e cs,l.set i d'⟩else Dh t' rd:=fun t'=>by
    simp only[Dh]
    by_cases q:t'=t
    ·subst q;simp
    ·have:Nat.beq t' t=false:=by
      cases hb:Nat.beq t' t with
      |false=>rfl
      |true=>exact(q (Nat.eq_of_beq_eq_true hb)).elim
     rw[this,if_neg q];rfl
   have hoff: ∀t',t'∈st.live→t'≠t→(gh.F t').apart gf:=fun t' ht' hne=>Ac.apart_sub (hM.apart t' t ht' htl hne) (Ac.sub_refl _) hgs
   have hF1b: ∀bb ob,F1 bb=some ob→gh.F t bb=some ob∧gf bb=none∨(gm bb=some ob∧(gf bb≠none∨w.heap.size≤bb)):=fun bb ob hb=>by
    simp only[F1,Ac.join]at hb
    cases el:((gh.F t).less gf) bb with
    |some x=>rw[el]at hb;simp at hb;subst hb;exact .inl (Ac.less_or hgs el)
    |none=>rw[el]at hb;simp at hb;exact .inr ⟨hb,hng bb ob hb⟩
   have hapF: ∀t',t'∈st.live→t'≠t→(gh.F t').apart F1:=fun t' ht' hne bb=>by
    cases eF:F1 bb with
    |none=>exact .inr rfl
    |some ob=>
     left
     rcases hF1b bb ob eF with⟨q,_⟩|⟨q,q'|q'⟩
     ·rcases hM.apart t' t ht' htl hne bb with z|z
      ·exact z
      ·rw[q]at z;cases z
     ·rcases hoff t' ht' hne bb with z|z
      ·exact z
      ·exact(q' z).elim
     ·exact(Dv hM q').2.1 t' ht'
   refine⟨As6 hM.moved hmv (fun b o hb=>(hmine b o hb).1),fun _ h=>h,hM.nodup,hkeys,fun t' ht' hlu=>?_,fun t' s' hlu=>?_,fun t1 t2 h1 h2 hne=>?_,fun t' kk ht' hkk=>?_,fun kk hkk=>?_⟩
   ·rw[hlk]at hlu
    split at hlu
    ·cases hlu
    ·rename_i hne
     rw[hlook,if_neg hne]
     refine⟨rfl,fun bb ob hb=>hb2 bb ob ?_ ((hM.tok t' ht').2.1 bb ob hb)⟩
     rcases hoff t' ht' hne bb with z|z
     ·rw[hb]at z;cases z
     ·exact z
   ·rw[hlk]at hlu
    rw[hlook]
    split at hlu
    ·rename_i he
     subst he
     simp at hlu;subst hlu
     rw[if_pos rfl]
     refine⟨hliesF1,fun bb ob hb=>?_,hnew,e3,rfl⟩
     rcases hF1b bb ob hb with⟨q,_⟩|⟨q,q'|q'⟩
     ·exact(hM.tok t' htl).2.2 bb ob q
     ·cases eg:gf bb with
      |none=>exact(q' eg).elim
      |some x=>exact(hmine bb x eg).1
     ·exact .inl (Nat.le_trans hM.moved.size q')
    ·rename_i hne
     rw[if_neg hne]
     have hm:=Acb hlu
     obtain⟨vv,q1,q2,q3,q4⟩:=hrd2 _ hm
     simp only at q1 q2 q3 q4
     have ht':=hKl _ hm
     refine⟨fun bb ob hb=>hb2 bb ob ?_ ((hM.tok t' ht').2.1 bb ob hb),(hM.tok t' ht').2.2,by rw[←q2];exact q1,q3,q4⟩
     rcases hoff t' ht' hne bb with z|z
     ·rw[hb]at z;cases z
     ·exact z
   ·rw[hlook,hlook]
    by_cases a1:t1=t
    ·by_cases a2:t2=t
     ·exact(hne (a1.trans a2.symm)).elim
     ·rw[if_pos a1,if_neg a2];exact Ac.apart_symm (hapF t2 h2 a2)
    ·by_cases a2:t2=t
     ·rw[if_neg a1,if_pos a2];exact hapF t1 h1 a1
     ·rw[if_neg a1,if_neg a2];exact hM.apart t1 t2 h1 h2 hne
   ·rw[hlook]
    by_cases a1:t'=t
    ·rw[if_pos a1]
     cases eF:F1 (gh.B kk)with
     |none=>rfl
     |some ob=>
      exfalso
      rcases hF1b _ ob eF with⟨q,_⟩|⟨q,q'|q'⟩
      ·rw[hM.tokBox t kk htl hkk]at q;cases q
      ·cases eg:gf (gh.B kk)with
       |none=>exact q' eg
       |some x=>exact(hmine _ x eg).2 kk hkk rfl
      ·exact(Dv hM q').2.2 kk hkk rfl
    ·rw[if_neg a1];exact hM.tokBox t' kk ht' hkk
   ·obtain⟨vs,e,q1,_⟩:=hM.box kk _ (Fj hkk).choose_spec
    rw[q1]
    refine hb2 _ _ ?_ q1
    cases eg:gf (gh.B kk)with
    |none=>rfl
    |some x=>exact((hmine _ x eg).2 kk hkk rfl).elim
  have hst3:st'=G6 st st.live (((t,⟨.sl e cs,l.set i d'⟩):Nat×Sg)::rd):=by rw[hst2];rfl
  subst hst3
  refine hn _ _ _ _ v' w' h hst (Turn.rm hM hdirect) (Turn.env hM hdirect hE) ?_
  show VR cx _ _ (.v false [⟨.int .i64,rr,.nil⟩]) v'
  rw[hv'.1]
  exact(Em hv'.2).cr
 ·cases h
theorem A9w {f:FuncId} {as:Array Operand} {ts:Array TypeId} {ms:List Nat} (ho:o.op= .call {callee:=.value (.func f),args:=as,argTypes:=ts}) (hkd:g.kind f= .lend ms) {ps:List PV} {vs:List RV} {rd:List (Nat×Sg)}
  (hps:Kp g.ty st as.toList ts.toList=some ps) (hvs:Co st ms ps=some vs) (hrd:Qg ms ps=some rd)
  (h:(ob (Je ms ps) fun gv=>(g.ctr f vs).run fun res=>ob (Jf ms ps res.2) fun us=>chk (Qf gv.2 && (gv.2.all fun t=>gv.1.contains t || (us.map fun u=>u.1).contains t) && rd.all fun u=> !gv.2.contains u.1) (ob o.dst fun n=>let x:=B5 (64*n) res.1
    k (Mi x.1) (.rs gv.1 (List.range' (64*n) (x.2-64*n)) (us++rd))))=some r):o.wp P a w next Q:=by
 obtain⟨gv,hgv,h⟩:=Ah h
 obtain⟨res,hres,h⟩:=Tree.run_some h
 obtain⟨us,hus,h⟩:=Ah h
 obtain⟨hchk,h⟩:=A2 h
 obtain⟨n,hdn,h⟩:=Ah h
 simp only[Bool.and_eq_true]at hchk
 obtain⟨⟨c1,c2⟩,c3⟩:=hchk
 have hnd:=Acc c1
 obtain⟨st',hst⟩:=hk _ _ h
 obtain⟨live',heat,hkeys,hborn,hst2⟩:=Afp hst
 obtain⟨m1,m2⟩:=Lv heat hM.nodup
 have hsub: ∀t,t∈live'→t∈st.live:=fun t ht=>((m1 t).1 ht).1
 have hnl:live'.Nodup:=(Xt heat hM.nodup).2
 have hKl: ∀u,u∈rd→u.1∈st.live:=fun u hu=>hsub _ (hkeys u (by simp[hu]))
 have hKm: ∀t',t'∈rd.map (fun u=>u.1)→t'∈st.live:=fun t' ht'=>by obtain⟨u,hu,rfl⟩:=List.mem_map.1 ht';exact hKl u hu
 have hgl: ∀t,t∈gv.2→t∈st.live:=fun t ht=>by
  have:=(List.all_eq_true.1 c2) t ht
  simp only[Bool.or_eq_true]at this
  rcases this with q|q
  ·exact m2 t (by simpa using q)
  ·have:t∈us.map fun u=>u.1:=by simpa using q
   obtain⟨u,hu,rfl⟩:=List.mem_map.1 this
   exact hsub _ (hkeys u (by simp[hu]))
 have hrg: ∀t,t∈rd.map (fun u=>u.1)→t∉gv.2:=fun t ht=>by
  obtain⟨u,hu,rfl⟩:=List.mem_map.1 ht
  have:=(List.all_eq_true.1 c3) u hu
  simpa using this
 obtain⟨lv2,heat2⟩:=A3j hM.nodup hnd hgl
 obtain⟨l1,l2⟩:=Lv heat2 hM.nodup
 have hvl:=Afo hE hps
 obtain⟨hrp,hrd2⟩:=Aiy hM hKm hvl hrd (fun u hu=>List.mem_map.2 ⟨u,hu,rfl⟩)
 obtain⟨fr,hava,_,_,hfru⟩:=Aqp hM (fun _ h=>h) hM.nodup hvl hrp hvs hgv heat2
 have hlfr:Ba fr w:=fun b ob hb=>by obtain⟨t,t1,_,t3⟩:=hfru b ob hb;exact(hM.tok t t1).2.1 b ob t3
 have hfrm: ∀b ob,fr b=some ob→E6 cx b∧ ∀kk,st.has kk=true→gh.B kk≠b:=fun b ob hb=>by
  obtain⟨t,t1,_,t3⟩:=hfru b ob hb
  refine⟨(hM.tok t t1).2.2 b ob t3,fun kk hkk he=>?_⟩
  have:=hM.tokBox t kk t1 hkk
  rw[he,t3]at this;cases this
 have hoff: ∀t,t∈st.live→t∉gv.2→(gh.F t).apart fr:=fun t ht hng b=>by
  cases e:fr b with
  |none=>exact .inr rfl
  |some ob=>
   left
   obtain⟨u,u1,u2,u3⟩:=hfru b ob e
   have hug:u∈gv.2:=by
    by_cases q:u∈gv.2
    ·exact q
    ·exact(u2 ((l1 u).2 ⟨u1,q⟩)).elim
   have hne:t≠u:=fun e=>hng (e▸hug)
   rcases hM.apart t u ht u1 hne b with q|q
   ·exact q
   ·rw[q]at u3;cases u3
 have hdo:=hC.ctr f
 rw[hkd]at hdo
 have hcall:=hdo vs res (as.toList.map a.eval) w (El cx (rd.map fun u=>u.1) gh.F gh.V gh.S) fr hres (Awh hM hKm) hlfr (fun bb hbb oo=>by
   obtain⟨ob,hob⟩:=Option.isSome_iff_exists.1 hbb
   refine Awi hM (hfrm bb ob hob).1 (fun t' ht'=>?_) oo
   rcases hoff t' (hKm t' ht') (hrg t' ht') bb with q|q
   ·exact q
   ·rw[hob]at q;cases q) hava
 unfold Oper.wp
 rw[Om ho (hC.fn f vs _ hres)]
 refine hcall.mono ?_
 rintro ee w' ⟨v',ff,gm,rfl,hmv,hlf,hlg,hap,hnf,hng,hO,hm⟩
 show next (a.put o.dst v') w'
 obtain⟨fs,f1,f2,f3⟩:=Auw hvl hm hus (fun u hu=>hsub _ (hkeys u (by simp[hu])))
 have husk:(us.map fun u=>u.1).Nodup∧ ∀u,u∈us→u.1∈gv.2:=A7w hnd hgv hus
 have hT:=A7v hM (f:=ff) hsub hnl hmv hlg hng hfrm f1 f2 f3 hkeys (fun t ht hlu=>hoff t (hsub t ht) (fun hg=>by
   have:=(List.all_eq_true.1 c2) t hg
   simp only[Bool.or_eq_true]at this
   rcases this with q|q
   ·exact((m1 t).1 ht).2 (by simpa using q)
   ·have:t∈us.map fun u=>u.1:=by simpa using q
    obtain⟨u,hu,rfl⟩:=List.mem_map.1 this
    exact Ait hlu u hu rfl)) hrd2 husk.1
 have M1:=Turn.rm hM hT
 have E1:=Turn.env hM hT hE
 have hfresh:Ee cx (Turn.gh gh cx live' (fun t=>match Ky t fs with|some f=>f|none=>gh.F t)) (G6 st live' (us++rd)) ff:=fun b ob hb=>by
  have hmine:E6 cx b:=by
   rcases hnf b ob hb with q|q
   ·cases e:fr b with
    |none=>exact(q e).elim
    |some x=>exact(hfrm b x e).1
   ·exact .inl (Nat.le_trans hM.moved.size q)
  have htok: ∀t,t∈live'→(match Ky t fs with|some f=>f|none=>gh.F t) b=none:=fun t ht=>by
   cases hq:Dh t us with
   |some s=>
    obtain⟨f',k1,k2,_⟩:=(f1.look (t:=t)).1 _ hq
    simp only[k1]
    rcases hap b with q|q
    ·rw[hb]at q;cases q
    ·cases e:f' b with
     |none=>rfl
     |some x=>rw[f3 _ k2 b x e]at q;cases q
   |none=>
    simp only[(f1.look (t:=t)).2 hq]
    rcases hnf b ob hb with q|q
    ·have hng2:t∉gv.2:=fun hg=>by
      have:=(List.all_eq_true.1 c2) t hg
      simp only[Bool.or_eq_true]at this
      rcases this with q|q
      ·exact((m1 t).1 ht).2 (by simpa using q)
      ·have:t∈us.map fun u=>u.1:=by simpa using q
       obtain⟨u,hu,rfl⟩:=List.mem_map.1 this
       exact Ait hq u hu rfl
     rcases hoff t (hsub t ht) hng2 b with z|z
     ·exact z
     ·exact(q z).elim
    ·exact(Dv hM q).2.1 t (hsub t ht)
  refine⟨hmine,htok,fun kk hkk he=>?_,fun o'=>?_⟩
  ·rw[On]at hkk
   have he':gh.B kk=b:=he
   rcases hnf b ob hb with q|q
   ·cases e:fr b with
    |none=>exact q e
    |some x=>exact(hfrm b x e).2 kk hkk he'
   ·exact(Dv hM q).2.2 kk hkk he'
  ·show El cx live' _ gh.V gh.S b o'=none
   cases hg:El cx live' (fun t=>match Ky t fs with|some f=>f|none=>gh.F t) gh.V gh.S b o' with
   |none=>rfl
   |some x=>
    exfalso
    rcases Ij hg with h|⟨t,ht,h,_⟩
    ·obtain⟨h1,h2⟩:=hM.old b o' x h
     rcases hmine with q|q
     ·omega
     ·rw[h2]at q;cases q
    ·have h':Cj (match Ky t fs with|some f=>f|none=>gh.F t) b o'=some x:=h
     unfold Cj Ac.cell at h';rw[htok t ht]at h';cases h'
 have hge:=Nf (64*n) res.1
 obtain⟨g2,M2,X2,C2⟩:=As5 (n:=64*n) M1 hO hlf hfresh (fun t t1 t2=>hborn t (List.mem_range'_1.2 ⟨t1,by omega⟩))
 have hst3:st'=more (G6 st live' (us++rd)) (64*n) ((B5 (64*n) res.1).2-64*n):=hst2
 subst hst3
 exact hn g2 _ _ _ v' w' h hst M2 (E1.ext' X2 rfl) C2
end
end Go.Proofs.YtmhhajdeafijmaaGreat
namespace Go.Proofs.YtmhhajdeafijmaaGreat
open Go.RowKit
set_option linter.unusedVariables false
set_option linter.unusedSectionVars false
set_option linter.unusedSimpArgs false

mutual
theorem RdD.uniq {G:Az}: ∀(s:Sh) (d d':s.den) (v:Value),RdD G s d v→RdD G s d' v→d=d'
 | .int _,_,_,_,h,h'=>by simp only[RdD]at h h';have:=h.1.symm.trans h'.1;injection this
 | .bool,_,_,_,h,h'=>by simp only[RdD]at h h';have:=h.symm.trans h';injection this
 | .str,_,_,_,h,h'=>by simp only[RdD]at h h';have:=h.symm.trans h';injection this
 | .junk,_,_,_,_,_=>rfl
 | .sl _ cs,l,l',v,h,h'=>by
  simp only[RdD]at h h'
  obtain⟨a,cap,h1,_,_,_,h4⟩:=h
  obtain⟨a',cap',h1',_,_,_,h4'⟩:=h'
  have he:=h1.symm.trans h1'
  injection he with e1 e2 e3
  subst e1
  apply List.ext_getElem?
  intro i
  cases hd:l[i]? with
  |none=>
   have:=List.getElem?_eq_none_iff.1 hd
   exact(List.getElem?_eq_none (by omega)).symm
  |some d=>
   have hi:=(List.getElem?_eq_some_iff.1 hd).1
   have hd':=List.getElem?_eq_getElem (l:=l') (i:=i) (by omega)
   rw[hd']
   obtain⟨b,o,k1,k2⟩:=h4 i d hd
   obtain⟨b',o',k1',k2'⟩:=h4' i _ hd'
   rw[k1]at k1'
   cases k1'
   rw[Di.uniq cs d _ b _ k2 k2']
theorem Di.uniq {G:Az}: ∀(cs:List Sh) (d d':dens cs) (b o:Nat),Di G cs d b o→Di G cs d' b o→d=d'
 |[],_,_,_,_,_,_=>rfl
 |s::r,d,d',b,o,h,h'=>by
  simp only[Di]at h h'
  obtain⟨⟨v,h1,h2⟩,h3⟩:=h
  obtain⟨⟨v',h1',h2'⟩,h3'⟩:=h'
  rw[h1]at h1'
  cases h1'
  exact Prod.ext (RdD.uniq s d.1 d'.1 v h2 h2') (Di.uniq r d.2 d'.2 b _ h3 h3')
end
theorem A4.uniq {f:Ac} {e e':Nat} {cs:List Sh} {l l':List (dens cs)} {v:Value} (h:A4 f (.sl e cs) l v) (h':A4 f (.sl e' cs) l' v):l=l':=by
 have k:=A4.rdIn _ f _ v (Cj f) h (fun _ _ _ hx _=>hx)
 have k':=A4.rdIn _ f _ v (Cj f) h' (fun _ _ _ hx _=>hx)
 refine RdD.uniq (G:=Cj f) (.sl e cs) l l' v k ?_
 simpa only[RdD] using k'
theorem Amo {sz:Nat}: ∀ {css:List (List Value)} {H:Nat},(∀c∈css,c.length=sz)→(css.drop H).flatten=css.flatten.drop (H*sz)
 |[],H,_=>by simp
 |c::r,0,_=>by simp
 |c::r,H+1,h=>by
  have hc:=h c (by simp)
  have ih:=Amo (css:=r) (H:=H) (fun d hd=>h d (by simp[hd]))
  simp only[List.drop_succ_cons,List.flatten_cons,ih]
  rw[List.drop_append,hc,Nat.succ_mul,Nat.add_sub_cancel]
  rw[List.drop_eq_nil_of_le (show c.length≤H*sz+sz by omega),List.nil_append]
section
variable {P:Program} {g:Cfg} (hC:CfgOk P g) {cx:Cx} {gh:Gh} {st:St} {a:Act} {w:World} {nt:Nat} (hM:RM cx gh st w) (hE:Env nt cx gh st a)
 {o:Oper} {ρ:Type} {k:PV→Ef→Option ρ} {r:ρ} {next:Act→World→Prop} {Q:Exit→Act→World→Prop}
 (hk: ∀pv ef,k pv ef=some r→ ∃st',ef.app o.dst st=some st')
 (hn: ∀gh' pv ef st' v w',k pv ef=some r→ef.app o.dst st=some st'→RM cx gh' st' w'→Env nt cx gh' st' a→VR cx gh' st' pv v→next (a.put o.dst v) w')
include hC hM hE hk hn
theorem As7 {x y:Operand} {t:Nat} (ho:o.op= .call {callee:=.builtin .append,args:= #[x,y],argTypes:= #[t,t]}) {T:Ty} {e0 dn:Nat} {c0:List Sh} {l m:List (dens c0)} {ate:List Nat}
  (hag:T.agg=false) (hsh:T.shs=[.sl e0 c0]) (hT:g.ty t=some T) (hdn:o.dst=some dn)
  (hbd:List.length (α:=dens c0) l+List.length (α:=dens c0) m≤4294967296)
  {css css2:List (List Value)} {rw_:Ac} {hs hs2:List Ac} {ad:Option Addr} {cap2:Nat}
  (r1:Cu e0 c0.length rw_ (a.eval x) l.length css.flatten) (r3:Bh c0.length (fun h c d=>Bf h c0 d c) hs css l)
  (hv2:a.eval y= .slice ad m.length cap2) (e2:Bh c0.length (fun h c d=>Bf h c0 d c) hs2 css2 m)
  (hpw:(rw_::(hs++hs2)).Pairwise Ac.apart)
  (news: ∀j u,css2.flatten[j]? =some u→ ∃b o,ad=some ⟨b,o,none⟩∧w.cell? ⟨b,o+j,none⟩=some u)
  {st':St} (hst:(Ef.rs ate [64*dn] []).app o.dst st=some st')
  (hown: ∀h,h∈rw_::(hs++hs2)→ ∀b ob,h b=some ob→ ∃t,t∈st.live∧t∈ate∧gh.F t b=some ob)
  (h:k (.v false [⟨.sl e0 c0,(l++m:List (dens c0)),.own (64*dn)⟩]) (.rs ate [64*dn] [])=some r):o.wp P a w next Q:=by
 obtain⟨live',heat,_,hborn,hst2⟩:=Afp hst
 obtain⟨m1,m2⟩:=Lv heat hM.nodup
 have hsub: ∀t,t∈live'→t∈st.live:=fun t ht=>((m1 t).1 ht).1
 have hnl:live'.Nodup:=(Xt heat hM.nodup).2
 obtain⟨hu,z,by_,hR,hb2,hz⟩:=(hC.ty t T hT).sl e0 c0 hag hsh
 obtain⟨ie,hi1,hi2,hi3,hi4⟩:=hR.info
 have hlies: ∀h,h∈rw_::(hs++hs2)→Ba h w:=fun h hh b ob hb=>by
  obtain⟨t,t1,_,t3⟩:=hown h hh b ob hb
  exact(hM.tok t t1).2.1 b ob t3
 have hrwm:rw_∈rw_::(hs++hs2):=by simp
 obtain⟨v',w',f',hrun,hrow,hlf',hcases⟩:=Aeb (P:=P) w t o.type e0 ie z c0.length hu hi1 hi2 hi3 hR.hz hR.h0 (c:=cap2) r1 (hlies rw_ hrwm) news
  (by rw[De e2.len,e2.1]) (Awe e2) (by unfold maxLen;omega) (by
   rw[hi4]
   have:(List.length (α:=dens c0) l+List.length (α:=dens c0) m)*by_≤4294967296*4096:=Nat.mul_le_mul hbd hb2
   omega)
 have hf': ∀b ob,f' b=some ob→(∃ob',rw_ b=some ob')∨b=w.heap.size:=by
  intro b ob hb
  rcases hcases with⟨_,rfl,_,_⟩|⟨b',C,D,cap,_,_,_,hC',_,_,rfl⟩|⟨b',D,cap,_,hbw,_,rfl⟩
  ·exact .inl ⟨ob,hb⟩
  ·simp only[Ac.one]at hb
   split at hb
   ·rename_i e;subst e;exact .inl ⟨_,hC'⟩
   ·cases hb
  ·simp only[Ac.one]at hb
   split at hb
   ·rename_i e;subst e;exact .inr hbw
   ·cases hb
 have hold: ∀b ob,(∃h,h∈rw_::(hs++hs2)∧h b=some ob)→E6 cx b∧(∀t,t∈live'→gh.F t b=none)∧(∀k,st.has k=true→gh.B k≠b)∧b<w.heap.size:=fun b ob ⟨h,hh,hb⟩=>by
  obtain⟨t,t1,t2,t3⟩:=hown h hh b ob hb
  refine⟨(hM.tok t t1).2.2 b ob t3,fun q hq=>?_,fun k hk he=>?_,(hM.tok t t1).2.1.lt _ _ t3⟩
  ·have hne:q≠t:=fun e=>((m1 q).1 hq).2 (e▸t2)
   rcases hM.apart q t (hsub q hq) t1 hne b with k1|k1
   ·exact k1
   ·rw[k1]at t3;cases t3
  ·rw[←he,hM.tokBox t k t1 hk]at t3;cases t3
 have hpl:=List.pairwise_cons.1 hpw
 have hapf: ∀h,h∈hs++hs2→f'.apart h:=fun h hh b=>by
  cases e1:f' b with
  |none=>exact .inl rfl
  |some o1=>
   right
   cases e2:h b with
   |none=>rfl
   |some o2=>
    exfalso
    rcases hf' b o1 e1 with⟨ob',hb'⟩|rfl
    ·rcases hpl.1 h hh b with k1|k1
     ·rw[k1]at hb';cases hb'
     ·rw[k1]at e2;cases e2
    ·have:=(hold w.heap.size o2 ⟨h,by simp only[List.mem_cons];exact .inr hh,e2⟩).2.2.2
     omega
 obtain⟨f,hf1,hf2⟩:=Air (f'::(hs++hs2)) (List.pairwise_cons.2 ⟨hapf,hpl.2⟩)
 have hO':A4 f (.sl e0 c0) (l++m:List (dens c0)) v':=by
  simp only[A4]
  refine⟨css++css2,f',hs++hs2,?_,hf1,r3.app e2⟩
  rw[List.length_append,List.flatten_append]
  exact hrow
 have hstay: ∀b ob,rw_ b=none→w.heap[b]? =some ob→w'.heap[b]? =some ob:=fun b ob hr hb=>by
  rcases hcases with⟨rfl,_⟩|⟨b',C,D,cap,_,_,_,hC',rfl,_,_⟩|⟨b',D,cap,hG,_⟩
  ·exact hb
  ·rw[setRow_other w b' b D (fun e=>by subst e;rw[hr]at hC';cases hC')];exact hb
  ·rw[hG.block b (Array.getElem?_eq_some_iff.1 hb).1];exact hb
 have hlf:Ba f w':=fun b ob hb=>by
  obtain⟨h,hh,hb⟩:=hf2 b ob hb
  rcases List.mem_cons.1 hh with rfl|hh'
  ·exact hlf' b ob hb
  ·have hm:h∈rw_::(hs++hs2):=by simp only[List.mem_cons];exact .inr hh'
   refine hstay b ob ?_ (hlies h hm b ob hb)
   rcases hpl.1 h hh' b with q|q
   ·exact q
   ·rw[q]at hb;cases hb
 have hmoved:Moved cx.f0 cx.w0 w':=by
  rcases hcases with⟨rfl,_⟩|⟨b',C,D,cap,_,_,_,hC',rfl,_,_⟩|⟨b',D,cap,hG,_⟩
  ·exact hM.moved
  ·exact hM.moved.row (hold b' _ ⟨rw_,hrwm,hC'⟩).1 D
  ·exact(hM.world hG).moved
 have hTn:Turn cx gh st w w' live' [] gh.F:=by
  refine⟨hmoved,hsub,hnl,fun u hu=>(by cases hu),fun u hu _=>⟨rfl,fun bb ob hb=>hstay bb ob ?_ ((hM.tok u (hsub u hu)).2.1 bb ob hb)⟩,fun u s hlu=>(by cases hlu),fun u u' hu hu' hne=>hM.apart u u' (hsub u hu) (hsub u' hu') hne,
   fun u kk hu hkk=>hM.tokBox u kk (hsub u hu) hkk,fun kk hkk=>?_⟩
  ·cases e:rw_ bb with
   |none=>rfl
   |some ob'=>rw[(hold bb ob' ⟨rw_,hrwm,e⟩).2.1 u hu]at hb;cases hb
  ·obtain⟨vs,e,q1,_⟩:=hM.box kk _ (Fj hkk).choose_spec
   rw[q1]
   refine hstay _ _ ?_ q1
   cases e:rw_ (gh.B kk)with
   |none=>rfl
   |some ob'=>exact((hold _ ob' ⟨rw_,hrwm,e⟩).2.2.1 kk hkk rfl).elim
 have M1:=Turn.rm hM hTn
 have E1:=Turn.env hM hTn hE
 have hfresh:Ee cx (Turn.gh gh cx live' gh.F) (G6 st live' []) f:=fun b ob hb=>by
  obtain⟨h,hh,hb⟩:=hf2 b ob hb
  have key:E6 cx b∧(∀t,t∈live'→gh.F t b=none)∧(∀k,st.has k=true→gh.B k≠b):=by
   rcases List.mem_cons.1 hh with rfl|hh'
   ·rcases hf' b ob hb with⟨ob',hb'⟩|rfl
    ·obtain⟨k1,k2,k3,_⟩:=hold b ob' ⟨rw_,hrwm,hb'⟩
     exact⟨k1,k2,k3⟩
    ·have:=Dv hM (Nat.le_refl w.heap.size)
     exact⟨this.1,fun t ht=>this.2.1 t (hsub t ht),this.2.2⟩
   ·obtain⟨k1,k2,k3,_⟩:=hold b ob ⟨h,by simp only[List.mem_cons];exact .inr hh',hb⟩
    exact⟨k1,k2,k3⟩
  obtain⟨k1,k2,k3⟩:=key
  refine⟨k1,k2,fun kk hkk=>by rw[On]at hkk;exact k3 kk hkk,fun o'=>?_⟩
  show El cx live' gh.F gh.V gh.S b o'=none
  cases hg:El cx live' gh.F gh.V gh.S b o' with
  |none=>rfl
  |some x=>
   exfalso
   rcases Ij hg with h|⟨t,ht,h,_⟩
   ·obtain⟨h1,h2⟩:=hM.old b o' x h
    rcases k1 with q|q
    ·omega
    ·rw[h2]at q;cases q
   ·unfold Cj Ac.cell at h;rw[k2 t ht]at h;cases h
 obtain⟨g2,M2,X2,C2⟩:=As5 (res:=[(false,[⟨.sl e0 c0,(l++m:List (dens c0))⟩])]) (v:=v') (n:=64*dn) M1 (show Kx _ v' f from⟨f,Ac.emp,⟨List.pairwise_cons.2 ⟨fun x hx=>by simp at hx;subst hx;exact Ac.apart_emp _,List.pairwise_singleton _ _⟩,fun x hx=>by
   simp at hx
   rcases hx with rfl|rfl
   ·exact Ac.sub_refl _
   ·exact Ac.emp_sub _⟩,hO',trivial⟩) hlf hfresh (fun t t1 t2=>hborn t (by
   have:t<64*dn+1:=t2
   simp;omega))
 have hst3:st'=more (G6 st live' []) (64*dn) 1:=hst2
 have hsz:(B5 (64*dn) [(false,[(⟨.sl e0 c0,(l++m:List (dens c0))⟩:Sg)])]).2-64*dn=1:=by
  show 64*dn+1-64*dn=1
  omega
 rw[hsz]at M2 X2 C2
 subst hst3
 refine B4 (v:=v') (w':=w') ?_ (hn g2 _ _ _ v' w' h hst M2 (E1.ext' X2 rfl) C2)
 unfold execOp;rw[ho]
 simp only[resolve,invoke,builtin,Sem.run_bind,Sem.run_pure,Result.andThen_ok,List.map_toArray,List.map_cons,List.map_nil,hv2,hrun]
theorem A5o {x y:Operand} {t:Nat} (ho:o.op= .call {callee:=.builtin .append,args:= #[x,y],argTypes:= #[t,t]}) {T:Ty} {c d:Cl} {dn:Nat} (hT:g.ty t=some T) (hc:ev1 g.ty st t x=some c) (hd:ev1 g.ty st t y=some d) (hdn:o.dst=some dn)
  (h:Oi T (64*dn) c d (fun r ef=>k (.v false [r]) ef)=some r):o.wp P a w next Q:=by
 have hcc:=Ih hE hc
 have hcd:=Ih hE hd
 obtain⟨csh,cval,ctok⟩:=c
 obtain⟨dsh,dval,dtok⟩:=d
 unfold Oi at h
 split at h
 case h_2=>cases h
 case h_1 x1 y1 e cs l t1 e1 cs1 l0 e' cs' m ty' he1 he2=>
 cases he1
 cases he2
 split at h
 case h_2=>cases h
 case h_1 ag shs e0 c0 hag hsh=>
 split at h
 case isFalse=>cases h
 case isTrue hcs=>
 subst hcs
 split at h
 case isFalse=>cases h
 case isTrue hc0=>
 subst hc0
 split at h
 case isFalse=>cases h
 case isTrue he0=>
 subst he0
 obtain⟨hbd,h⟩:=A2 h
 simp only[decide_eq_true_eq]at hbd
 obtain⟨_,hu1,hcp⟩:=hcc
 split at h
 ·
  rename_i t' e2 cs2 l2 lo _
  obtain⟨p1,h⟩:=A2 h
  obtain⟨p2,h⟩:=A2 h
  obtain⟨p3,hfin⟩:=A2 h
  have p1:=Nat.eq_of_beq_eq_true p1
  have p2:=Nat.le_of_ble_eq_true p2
  subst p1
  obtain⟨_,hu2,hdp⟩:=hcd
  obtain⟨st',hst⟩:=hk _ _ hfin
  obtain⟨live',heat,_,_,_⟩:=Afp hst
  have htl:t'∈st.live:=(Lv heat hM.nodup).2 t' (by simp)
  obtain⟨q1,q2,q3,H,ad,n,cap,r1,r2,r3,r4,r5⟩:=hcp htl
  obtain⟨q1',q2',q3',H',ad',n',cap',r1',r2',r3',r4',r5'⟩:=hdp htl
  simp only[Option.getD_none,Option.getD_some,List.drop_zero]at r1' r3 r5 r3' r5'
  cases r3
  cases r3'
  rw[r4]at r4'
  cases r4'
  have hll:l2=l0:=A4.uniq q1' q1
  subst hll
  have k0:=q1
  rw[r4]at k0
  simp only[A4]at k0
  obtain⟨css,rw_,hs,k1,k2,k3⟩:=k0
  have hlH:(l2.take H).length=H:=by simp;omega
  have hmH:((l2.take H').drop lo).length=H'-lo:=by simp;omega
  rw[hlH]at p2
  have hpl:=List.pairwise_cons.1 k2.1
  have hX:((hs.take H').drop lo).Sublist (hs.drop H):=
   ((List.take_sublist H' hs).drop lo).trans (List.drop_sublist_drop_left hs p2)
  have hXX:(hs.take H++(hs.take H').drop lo).Sublist hs:=by
   have:=List.Sublist.append (List.Sublist.refl (hs.take H)) hX
   rwa [List.take_append_drop]at this
  refine As7 (st':=st') hC hM hE hk hn ho hag hsh hT hdn hbd (css:=css.take H) (css2:=(css.take H').drop lo) (rw_:=rw_) (hs:=hs.take H) (hs2:=(hs.take H').drop lo) (cap2:=cap-lo)
   ?_ (k3.take H) (by rw[hmH];exact r5') ((k3.take H').drop lo) ?_ ?_ hst ?_ hfin
  ·rw[r5,Lu k3.len,hlH]
   exact k1.take r2
  ·exact List.pairwise_cons.2 ⟨fun q hq=>hpl.1 q (hXX.subset hq),hpl.2.sublist hXX⟩
  ·intro j u hj
   rw[Amo (fun c hc=>k3.len c (List.mem_of_mem_take hc)),Lu k3.len,List.getElem?_drop,List.getElem?_take]at hj
   split at hj
   case isFalse=>cases hj
   case isTrue hlt=>
   have hlo:lo<H':=by
    rcases Nat.lt_or_ge lo H' with hh|hh
    ·exact hh
    ·have:=Nat.mul_le_mul_right cs1.length hh
     omega
   obtain⟨hz,⟨⟨a',hE'⟩,hz'⟩|⟨b,cap',cur,hE',hg,hnc,hcm,hsz,htk⟩⟩:=k1
   ·omega
   ·cases hE'
    have hcl: ¬cap=lo:=by omega
    refine⟨b,lo*cs1.length,by rw[if_neg hcl];simp[Addr.add_mid],?_⟩
    have hblk:=(hM.tok t' htl).2.1 b _ (k2.2 rw_ (by simp) b _ hg)
    rw[cell_of_row w b _ cur e1 (0,0) hblk]
    rw[←htk,List.getElem?_take]at hj
    split at hj
    ·simpa using hj
    ·cases hj
  ·intro q hq b ob hb
   refine⟨t',htl,by simp,k2.2 q ?_ b ob hb⟩
   rcases List.mem_cons.1 hq with e|hq
   ·simp[e]
   ·exact List.mem_cons_of_mem _ (hXX.subset hq)
 ·
  obtain⟨a2,ha2,hfin⟩:=Ah h
  obtain⟨st',hst⟩:=hk _ _ hfin
  obtain⟨live',heat,_,_,_⟩:=Afp hst
  have htl:t1∈st.live:=(Lv heat hM.nodup).2 t1 (by simp)
  obtain⟨l1,heat1,heat2⟩:=Rn (l:=[t1]) (m:=a2) heat
  obtain⟨m1,m2⟩:=Lv heat1 hM.nodup
  obtain⟨s1,n1⟩:=Xt heat1 hM.nodup
  have ht1:t1∉l1:=fun hm=>((m1 t1).1 hm).2 (by simp)
  obtain⟨m3,m4⟩:=Lv heat2 n1
  obtain⟨q1,q2,q3,H,ad,n,cap,r1,r2,r3,r4,r5⟩:=hcp htl
  simp only[Option.getD_none,List.drop_zero]at r3 r5
  cases r3
  have hlH:(l0.take H).length=H:=by simp;omega
  rw[r4]at q1
  simp only[A4]at q1
  obtain⟨css,rw_,hs,k1,k2,k3⟩:=q1
  have hsrc: ∃(css:List (List Value)) (hs:List Ac) (ad:Option Addr) (cap:Nat),a.eval y= .slice ad (List.length (α:=dens cs1) m) cap∧Bh cs1.length (fun h c d=>Bf h cs1 d c) hs css m∧hs.Pairwise Ac.apart∧
    (∀h,h∈hs→ ∀b o,h b=some o→ ∃t,t∈l1∧t∈a2∧gh.F t b=some o)∧
    ∀j u,css.flatten[j]? =some u→ ∃b o,ad=some ⟨b,o,none⟩∧w.cell? ⟨b,o+j,none⟩=some u:=by
   cases hfl:Qe cs1 with
   |true=>
    have hrd:=hcd.1
    simp only[RdD]at hrd
    obtain⟨ad,cap,hv,_,_,_,hel⟩:=hrd
    by_cases hm0:List.length (α:=dens cs1) m=0
    ·have:m=[]:=List.eq_nil_of_length_eq_zero hm0
     subst this
     exact⟨[],[],ad,cap,hv,Bh.nil _ _,.nil,fun h hh=>(by cases hh),fun j u hu=>by simp at hu⟩
    ·obtain⟨b,o,had,_⟩:=hel 0 _ (List.getElem?_eq_getElem (by omega))
     subst had
     obtain⟨css,e1,e2⟩:=Ais (G:=gh.G) hfl (l:=m) (b:=b) (o:=o) (fun i d hd=>by
      obtain⟨b',o',e,h⟩:=hel i d hd
      cases e;exact h)
     refine⟨css,List.replicate (List.length (α:=dens cs1) m) Ac.emp,some ⟨b,o,none⟩,cap,hv,e1,List.pairwise_replicate.2 (.inr (Ac.apart_emp _)),fun h hh b o hb=>?_,fun j u hu=>⟨b,o,rfl,hM.lies _ _ _ (e2 j u hu)⟩⟩
     rw[(List.mem_replicate.1 hh).2]at hb;cases hb
   |false=>
    rw[hfl]at ha2
    simp only[cond_false]at ha2
    obtain⟨f,o1,o2,o3,o4⟩:=Aqm hM s1 n1 hcd ha2 heat2
    simp only[A4]at o1
    obtain⟨css,rw2,hs,r1,r2,r3⟩:=o1
    obtain⟨ad,cap,hv,_,_,hcell⟩:=r1.rd
    have hin: ∀b o,f b=some o→ ∃t,t∈l1∧t∈a2∧gh.F t b=some o:=fun b o hb=>by
     obtain⟨t,t1,t2,t3⟩:=o4 b o hb
     refine⟨t,t1,?_,t3⟩
     by_cases hq:t∈a2
     ·exact hq
     ·exact(t2 ((m3 t).2 ⟨t1,hq⟩)).elim
    refine⟨css,hs,ad,cap,hv,r3,(List.pairwise_cons.1 r2.1).2,fun h hh b o hb=>hin b o (r2.2 h (by simp[hh]) b o hb),fun j u hu=>?_⟩
    cases ad with
    |none=>rw[hcell.2]at hu;simp at hu
    |some ad=>
     obtain⟨b,o,sp⟩:=ad
     obtain⟨k1,k2⟩:=hcell j u hu
     simp only at k1;subst k1
     have hlf:Ba rw2 w:=fun b o hb=>by
      obtain⟨t,t1,_,t3⟩:=o4 b o (r2.2 rw2 (by simp) b o hb)
      exact(hM.tok t (s1 t t1)).2.1 b o t3
     exact⟨b,o,rfl,hlf.cell k2⟩
  obtain⟨css2,hs2,ad2,cap2,hv2,e2,p2,u2,news⟩:=hsrc
  have hpl:=List.pairwise_cons.1 k2.1
  have hcross: ∀q,q∈rw_::hs→ ∀q2,q2∈hs2→q.apart q2:=fun q hq q2 hq2 b=>by
   cases e1:q b with
   |none=>exact .inl rfl
   |some o1=>
    right
    cases e2:q2 b with
    |none=>rfl
    |some o2=>
     obtain⟨t,t1',_,t3⟩:=u2 q2 hq2 b o2 e2
     have hne:t1≠t:=fun e=>ht1 (e▸t1')
     have hF:=k2.2 q hq b o1 e1
     rcases hM.apart t1 t htl (s1 t t1') hne b with z|z
     ·rw[z]at hF;cases hF
     ·rw[z]at t3;cases t3
  refine As7 (st':=st') hC hM hE hk hn ho hag hsh hT hdn hbd (css:=css.take H) (css2:=css2) (rw_:=rw_) (hs:=hs.take H) (hs2:=hs2) (cap2:=cap2)
   ?_ (k3.take H) hv2 e2 ?_ news hst ?_ hfin
  ·rw[r5,Lu k3.len,hlH]
   exact k1.take r2
  ·refine List.pairwise_cons.2 ⟨fun q hq=>?_,List.pairwise_append.2 ⟨hpl.2.sublist (List.take_sublist _ _),p2,fun q hq q2 hq2=>hcross q (List.mem_cons_of_mem _ (List.mem_of_mem_take hq)) q2 hq2⟩⟩
   rcases List.mem_append.1 hq with hq|hq
   ·exact hpl.1 q (List.mem_of_mem_take hq)
   ·exact hcross rw_ (by simp) q hq
  ·intro q hq b ob hb
   have old:q∈rw_::hs→ ∃t,t∈st.live∧t∈t1::a2∧gh.F t b=some ob:=fun hq=>⟨t1,htl,by simp,k2.2 q hq b ob hb⟩
   rcases List.mem_cons.1 hq with e|hq
   ·exact old (by simp[e])
   ·rcases List.mem_append.1 hq with hq|hq
    ·exact old (List.mem_cons_of_mem _ (List.mem_of_mem_take hq))
    ·obtain⟨t,t1',t2,t3⟩:=u2 q hq b ob hb
     exact⟨t,s1 t t1',by simp[t2],t3⟩
theorem A7x (hn0: ∀gh' pv ef st' v w',k pv ef=some r→ef.app o.dst st=some st'→RM cx gh' st' w'→Ext gh st gh' st'→st'.env=st.env→VR cx gh' st' pv v→next (a.put o.dst v) w')
  {args:Array Operand} {ts:Array TypeId} (ho:o.op= .call {callee:=.builtin .append,args:=args,argTypes:=ts}) (h:(match args.toList,ts.toList with
  |[x,y],[t,u]=>chk (Nat.beq t u) (ob (g.ty t) fun T=>ob (ev1 g.ty st t x) fun c=>ob (ev1 g.ty st t y) fun d=>ob o.dst fun n=>Oj T (64*n) c d fun r ef=>
   k (.v false [r]) ef)
  |_,_=>none)=some r):o.wp P a w next Q:=by
 split at h
 ·rename_i _ _ x y t u ha ht
  obtain⟨htu,hx1⟩:=A2 h
  have htu:=Nat.eq_of_beq_eq_true htu
  subst htu
  clear h
  obtain⟨T,hT,h⟩:=Ah hx1
  obtain⟨c,hc,h⟩:=Ah h
  obtain⟨d,hd,h⟩:=Ah h
  obtain⟨dn,hdn,h⟩:=Ah h
  have ha':args= #[x,y]:=by rw[←Array.toArray_toList (xs:=args),ha]
  have ht':ts= #[t,t]:=by rw[←Array.toArray_toList (xs:=ts),ht]
  subst ha' ht'
  unfold Oj at h
  split at h
  ·exact A5o hC hM hE hk hn ho hT hc hd hdn h
  ·exact A5m hC hM hE hk hn0 ho hT hc hd hdn h
 ·cases h
end
end Go.Proofs.YtmhhajdeafijmaaGreat
namespace Go.Proofs.YtmhhajdeafijmaaGreat
open Go.RowKit
set_option linter.unusedVariables false
set_option linter.unusedSectionVars false
set_option linter.unusedSimpArgs false

theorem Aqr {P:Program} {g:Cfg} (hC:CfgOk P g) {cx:Cx} {gh:Gh} {st:St} {a:Act} {w:World} {nt:Nat} (hM:RM cx gh st w) (hE:Env nt cx gh st a)
  {o:Oper} {ρ:Type} {k:PV→Ef→Option ρ} {r:ρ} {next:Act→World→Prop} {Q:Exit→Act→World→Prop}
  (hk: ∀pv ef,k pv ef=some r→ ∃st',ef.app o.dst st=some st')
 (hn: ∀gh' pv ef st' v w',k pv ef=some r→ef.app o.dst st=some st'→RM cx gh' st' w'→Env nt cx gh' st' a→VR cx gh' st' pv v→next (a.put o.dst v) w')
  (h:J0 g st o k=some r):o.wp P a w next Q:=by
 unfold J0 at h
 have hn0: ∀gh' pv ef st' v w',k pv ef=some r→ef.app o.dst st=some st'→RM cx gh' st' w'→Ext gh st gh' st'→st'.env=st.env→VR cx gh' st' pv v→next (a.put o.dst v) w':=
  fun gh' pv ef st' v w' hr ha m e he hv=>hn gh' pv ef st' v w' hr ha m (hE.ext' e he) hv
 split at h
 ·rename_i ho;exact A3c hC hM hE hk hn0 (.inl ho) h
 ·rename_i ho;exact A3c hC hM hE hk hn0 (.inr ho) h
 ·rename_i ho;exact Ba4 hC hM hE hk hn0 ho h
 ·rename_i ho;exact A9h hC hM hE hk hn0 ho h
 ·rename_i ho;exact Bcp hC hM hE hk hn0 ho h
 ·rename_i ho;exact Ba6 hC hM hE hk hn0 ho h
 ·rename_i ho;exact A9u hC hM hE hk hn ho h
 ·rename_i ho;exact Az6 hC hM hE hk hn0 ho h
 ·rename_i ho;exact Az7 hC hM hE hk hn0 ho h
 ·rename_i ho;exact A9i hC hM hE hk hn0 ho h
 ·rename_i ho;exact A2f hC hM hE hk hn0 ho h
 ·rename_i ho;exact A9n hC hM hE hk hn0 ho h
 ·rename_i ho;exact Ba9 hC hM hE hk hn0 ho h
 ·rename_i ho;exact A5n hC hM hE hk hn0 ho h
 ·rename_i ho;exact A9l hC hM hE hk hn0 ho h
 ·rename_i ho;exact Axl hC hM hE hk hn0 ho h
 ·rename_i ho;exact Az9 hC hM hE hk hn0 ho h
 ·rename_i ho;exact A9j hC hM hE hk hn0 ho h
 ·rename_i ho;exact A5k hC hM hE hk hn0 ho h
 ·rename_i ho;exact Bcs hC hM hE hk hn0 ho h
 ·rename_i ho;exact A7x hC hM hE hk hn hn0 ho h
 ·rename_i ho;exact Bct hC hM hE hk hn0 ho h
 ·rename_i ho;exact Bcu hC hM hE hk hn0 ho h
 ·rename_i ho
  split at h
  ·rename_i hkd;exact A9p hC hM hE hk hn0 ho hkd h
  ·rename_i hkd;exact A9q hC hM hE hk hn0 ho hkd h
  ·rename_i hkd;exact A9r hC hM hE hk hn0 ho hkd h
  ·rename_i hkd;exact A9s hC hM hE hk hn0 ho hkd h
  ·rename_i hkd
   obtain⟨ps,hps,h⟩:=Ah h
   obtain⟨vs,hvs,h⟩:=Ah h
   obtain⟨rd,hrd,h⟩:=Ah h
   split at h
   ·rename_i hel;exact A9v hC hM hE hk hn ho hkd hps hvs hrd hel h
   ·exact A9w hC hM hE hk hn ho hkd hps hvs hrd h
 ·cases h
end Go.Proofs.YtmhhajdeafijmaaGreat
namespace Go.Proofs.YtmhhajdeafijmaaGreat
open Go.RowKit
set_option linter.unusedVariables false
set_option linter.unusedSectionVars false
set_option linter.unusedSimpArgs false

theorem Acd {α β ρ:Type} (x:Option α) (f:α→Option β) (g:β→Option ρ):ob (ob x f) g=ob x fun a=>ob (f a) g:=by cases x<;>rfl
theorem Ng {β ρ:Type} (b:Bool) (x:Option β) (g:β→Option ρ):ob (chk b x) g=chk b (ob x g):=by cases b<;>rfl
theorem A5p {β ρ:Type} (b:Bool) (f:Bool→Option β) (g:β→Option ρ):ob (brf b f) g=brf b fun c=>ob (f c) g:=by cases b<;>rfl
theorem A0h {β ρ:Type} (x:β) (g:β→Option ρ):ob (some x) g=g x:=rfl
theorem Afq {β ρ:Type} (g:β→Option ρ):ob (none:Option β) g=none:=rfl
theorem Auy {β ρ:Type} (b:Bool) (x y:Option β) (g:β→Option ρ):ob (cond b x y) g=cond b (ob x g) (ob y g):=by cases b<;>rfl
theorem A2g {ρ:Type} {b:Bool} {x y x' y':Option ρ} (h:x=x') (k:y=y'):cond b x y=cond b x' y':=by rw[h,k]
theorem Aiz {α ρ:Type} {x:Option α} {f g:α→Option ρ} (h: ∀a,f a=g a):ob x f=ob x g:=by cases x<;>simp[ob,h]
theorem Nh {α β ρ:Type} (k:α→Option β) (g:β→Option ρ): ∀(t:Tree α),ob (t.run k) g=t.run fun a=>ob (k a) g
 | .leaf x=>rfl
 | .fail=>rfl
 | .chk b t=>by cases b<;>simp only[Tree.run,chk,Nh k g t,Afq]
 | .br b t f=>by cases b<;>simp only[Tree.run,br,Nh k g t,Nh k g f]
 | .ob x f=>by
  cases x with
  |some a=>exact Nh k g (f a)
  |none=>rfl
 | .sm x f h=>by
  cases x with
  |inl a=>exact Nh k g (f a)
  |inr a=>exact Nh k g (h a)
theorem A7y {α ρ:Type} {f g:α→Option ρ} (h: ∀a,f a=g a) (t:Tree α):t.run f=t.run g:=by
 rw[show f=g from funext h]
theorem Amp {ρ:Type} {b:Bool} {x y:Option ρ} (h:x=y):chk b x=chk b y:=by rw[h]
theorem A0i {ρ:Type} {b:Bool} {f g:Bool→Option ρ} (h: ∀c,f c=g c):brf b f=brf b g:=by cases b<;>simp[brf,br,h]

theorem A9x {ρ σ:Type} (op:BinOp) (k:IntKind) (x y:Int) (K:Cl→Option ρ) (L:ρ→Option σ):ob (Aun op k x y K) L=Aun op k x y fun c=>ob (K c) L:=by
 cases op<;>simp only[Aun,Acd,Ng]
theorem As8 {ρ σ:Type} (op:BinOp) (k:IntKind) (x y:Int) (K:Cl→Option ρ) (L:ρ→Option σ):ob (Aa4 op k x y K) L=Aa4 op k x y fun c=>ob (K c) L:=by
 cases op<;>simp only[Aa4,Acd,Ng,Afq]
theorem A0j {ρ σ:Type} (T:Ty) (op:BinOp) (x y:PV) (K:Cl→Option ρ) (L:ρ→Option σ):ob (Auo T op x y K) L=Auo T op x y fun c=>ob (K c) L:=by
 unfold Auo
 split
 ·split
  ·exact As8 _ _ _ _ _ _
  ·exact As8 _ _ _ _ _ _
  ·split
   ·exact A9x _ _ _ _ _ _
   ·rfl
 ·split<;>rfl
 ·split<;>rfl
 ·rw[Ng]
  apply Amp
  split<;>first|rfl|rw[Acd]
 ·rfl
theorem A0k {ρ σ:Type} (T:Ty) (n:Nat) (x y:Cl) (K:Cl→Ef→Option ρ) (L:ρ→Option σ):ob (Rm T n x y K) L=Rm T n x y fun c e=>ob (K c e) L:=by
 unfold Rm
 split
 ·split
  ·split
   ·split
    ·split
     ·simp only[Acd,Ng]
     ·rfl
    ·rfl
   ·rfl
  ·rfl
 ·rfl
theorem Axm {ρ σ:Type} (T:Ty) (n:Nat) (x y:Cl) (K:Cl→Ef→Option ρ) (L:ρ→Option σ):ob (Oi T n x y K) L=Oi T n x y fun c e=>ob (K c e) L:=by
 unfold Oi
 split
 ·split
  ·split
   ·split
    ·split
     ·rw[Ng]
      apply Amp
      split
      ·simp only[Ng]
      ·rw[Acd]
     ·rfl
    ·rfl
   ·rfl
  ·rfl
 ·rfl
theorem Aj1 {ρ σ:Type} (T:Ty) (n:Nat) (x y:Cl) (K:Cl→Ef→Option ρ) (L:ρ→Option σ):ob (Oj T n x y K) L=Oj T n x y fun c e=>ob (K c e) L:=by
 unfold Oj
 split
 ·exact Axm _ _ _ _ _ _
 ·exact A0k _ _ _ _ _ _
theorem Ao5 {ρ σ:Type} (T:Ty) (x:Cl) (lo hi:Option Int) (K:Cl→Option ρ) (L:ρ→Option σ):ob (Xr T x lo hi K) L=Xr T x lo hi fun c=>ob (K c) L:=by
 unfold Xr
 split
 ·simp only[Ng]
 ·rfl
theorem Awl {ρ σ:Type} (g:Cfg) (st:St) (o:Oper) (k:PV→Ef→Option ρ) (L:ρ→Option σ):ob (J0 g st o k) L=J0 g st o fun p e=>ob (k p e) L:=by
 unfold J0
 split
 all_goals simp only[Acd,Ng,Nh,A5p,Auy,A0j,Aj1,Ao5,Afq]
 all_goals repeat' (first|rfl|exact Aj1 _ _ _ _ _ _|exact Ao5 _ _ _ _ _ _|exact A0j _ _ _ _ _ _|(apply Aiz;intro)|apply A2g|(apply A7y;intro)|apply Amp|(apply A0i;intro)|(split<;>simp only[Acd,Ng,Nh,A5p,Auy,Afq])|simp only[Acd,Ng,Nh,A5p,Auy,Afq])
theorem C4 {ty:Tys} {st st':St} {t:Nat} {x:Operand} (h: ∀s,s∈Fi x→st.get s=st'.get s):evO ty st t x=evO ty st' t x:=by
 cases x with
 |tmp i=>simp only[evO];rw[h i (by simp[Fi])]
 |const v=>rfl
 |global g=>rfl
 |func f=>rfl
theorem Jm {ty:Tys} {st st':St} {t:Nat} {x:Operand} (h: ∀s,s∈Fi x→st.get s=st'.get s):ev1 ty st t x=ev1 ty st' t x:=by
 unfold ev1;rw[C4 h]
theorem Jn {ty:Tys} {st st':St} {t:Nat} {x:Operand} (h: ∀s,s∈Fi x→st.get s=st'.get s):evI ty st t x=evI ty st' t x:=by
 unfold evI;rw[Jm h]
theorem A7z {ty:Tys} {st st':St} {t:Nat} {x:Operand} (h: ∀s,s∈Fi x→st.get s=st'.get s):evB ty st t x=evB ty st' t x:=by
 unfold evB;rw[Jm h]
theorem Amq {T:Ty} {ty:Tys} {st st':St}: ∀ {ps:List (Nat×Operand)} {cs:List Cl},(∀s,s∈Ca (ps.map (·.2))→st.get s=st'.get s)→Jc T ty st cs ps=Jc T ty st' cs ps
 |[],cs,_=>rfl
 |(i,x)::r,cs,h=>by
  simp only[Jc]
  have hr: ∀cs,Jc T ty st cs r=Jc T ty st' cs r:=fun cs=>Amq (fun s hs=>h s (by simp[Ca]at hs ⊢;exact .inr hs))
  have hx: ∀s,s∈Fi x→st.get s=st'.get s:=fun s hs=>h s (by simp[Ca];exact .inl hs)
  apply Aiz;intro p
  cases x with
  |tmp t=>simp only[hx t (by simp[Fi]),hr]
  |const v=>cases v<;>simp only[hr]
  |global g=>simp only[hr]
  |func f=>rfl
theorem Ao6 {cs:List Sh} {st st':St}: ∀ {ps:List (Nat×Operand)} {k:Nat},(∀s,s∈Ca (ps.map (·.2))→st.get s=st'.get s)→Mh cs st k ps=Mh cs st' k ps
 |[],k,_=>rfl
 |(i,x)::r,k,h=>by
  simp only[Mh]
  have hr:Mh cs st (k+1) r=Mh cs st' (k+1) r:=Ao6 (fun s hs=>h s (by simp[Ca]at hs ⊢;exact .inr hs))
  have hx: ∀s,s∈Fi x→st.get s=st'.get s:=fun s hs=>h s (by simp[Ca];exact .inl hs)
  rw[hr]
  cases x with
  |tmp t=>simp only[hx t (by simp[Fi])]
  |const v=>cases v<;>rfl
  |global g=>rfl
  |func f=>rfl
theorem Amr {cs:List Sh} {st st':St}: ∀ {ps:List (Nat×Operand)} {k:Nat},(∀s,s∈Ca (ps.map (·.2))→st.get s=st'.get s)→Jd cs st k ps=Jd cs st' k ps
 |[],k,_=>rfl
 |(i,x)::r,k,h=>by
  simp only[Jd]
  have hr:Jd cs st (k+1) r=Jd cs st' (k+1) r:=Amr (fun s hs=>h s (by simp[Ca]at hs ⊢;exact .inr hs))
  have hx: ∀s,s∈Fi x→st.get s=st'.get s:=fun s hs=>h s (by simp[Ca];exact .inl hs)
  rw[hr]
  cases x with
  |tmp t=>simp only[hx t (by simp[Fi])]
  |const v=>cases v<;>rfl
  |global g=>rfl
  |func f=>rfl
theorem Aj2 {st st':St}: ∀ {ps:List (Nat×Operand)},(∀s,s∈Ca (ps.map (·.2))→st.get s=st'.get s)→Hl st ps=Hl st' ps
 |[],_=>rfl
 |(i,x)::r,h=>by
  have hr:Hl st r=Hl st' r:=Aj2 (fun s hs=>h s (by simp[Ca]at hs ⊢;exact .inr hs))
  have hx: ∀s,s∈Fi x→st.get s=st'.get s:=fun s hs=>h s (by simp[Ca];exact .inl hs)
  cases x with
  |tmp t=>simp only[Hl,hx t (by simp[Fi]),hr]
  |const v=>simp only[Hl,hr]
  |global g=>simp only[Hl,hr]
  |func f=>simp only[Hl,hr]
theorem Ai0 {ty:Tys} {st st':St}: ∀ {xs:List Operand} {ts:List Nat},(∀s,s∈Ca xs→st.get s=st'.get s)→Kp ty st xs ts=Kp ty st' xs ts
 |[],ts,_=>rfl
 |x::r,ts,h=>by
  simp only[Kp]
  rw[C4 (st:=st) (st':=st') (fun s hs=>h s (by simp[Ca];exact .inl hs))]
  have hr:Kp ty st r ts.tail=Kp ty st' r ts.tail:=Ai0 (fun s hs=>h s (by simp[Ca]at hs ⊢;exact .inr hs))
  rw[hr]
theorem Ai1 {st st':St}: ∀ {ms:List Nat} {ps:List PV},(∀b,b∈(ps.flatMap fun p=>match p with| .box b _=>[b]|_=>[])→st.bx b=st'.bx b)→Co st ms ps=Co st' ms ps
 |ms,[],_=>by simp[Co]
 |ms,p::ps,h=>by
  have hr:Co st ms.tail ps=Co st' ms.tail ps:=Ai1 (fun b hb=>h b (by simp only[List.flatMap_cons,List.mem_append];exact .inr hb))
  cases p with
  |v a xs=>simp only[Co,hr]
  |box b o=>
   cases o with
   |zero=>simp only[Co,hr,h b (by simp)]
   |succ o=>simp[Co]
  |any=>simp[Co]
  |el _ _ _=>simp[Co]
  |tup _=>simp[Co]
theorem As9 {b:Nat}: ∀ {ms:List Nat} {ps:List PV},E0 ms ps=some b→b∈(ps.flatMap fun p=>match p with| .box b _=>[b]|_=>[])
 |ms,[],h=>by simp[E0]at h
 |ms,p::ps,h=>by
  cases p with
  |v a xs=>
   simp only[E0]at h
   cases hz:Nat.beq (ms.headD 0) 0 with
   |false=>rw[hz]at h;cases h
   |true=>rw[hz]at h;have:=As9 h;simpa using this
  |box b' o=>
   cases o with
   |zero=>
    simp only[E0]at h
    cases hz:Nat.beq (ms.headD 0) 3 with
    |false=>rw[hz]at h;cases h
    |true=>
     rw[hz]at h
     obtain⟨_,h⟩:=A2 h
     simp at h;subst h;simp
   |succ o=>simp[E0]at h
  |any=>simp[E0]at h
  |el _ _ _=>simp[E0]at h
  |tup _=>simp[E0]at h
theorem Ata {ty:Tys} {st st':St}: ∀ {xs:List Operand} {ts:List Nat},(∀s,s∈Ca xs→st.get s=st'.get s)→args ty st xs ts=args ty st' xs ts
 |[],ts,_=>rfl
 |x::r,ts,h=>by
  simp only[args]
  rw[C4 (st:=st) (st':=st') (fun s hs=>h s (by simp[Ca];exact .inl hs))]
  have hr:args ty st r ts.tail=args ty st' r ts.tail:=Ata (fun s hs=>h s (by simp[Ca]at hs ⊢;exact .inr hs))
  rw[hr]
theorem Atb {ty:Tys} {st st':St} {t:Nat} {x:Option Operand} (h: ∀s,s∈Ca x.toList→st.get s=st'.get s):Ad9 ty st t x=Ad9 ty st' t x:=by
 cases x with
 |none=>rfl
 |some y=>simp only[Ad9];rw[Jn (fun s hs=>h s (by simpa [Ca] using hs))]
theorem A2h {ρ:Type} {g:Cfg} {st st':St} {o:Oper} (k:PV→Ef→Option ρ) (hs: ∀s,s∈Mj o→st.get s=st'.get s) (hb: ∀b,b∈Ud g st o→st.bx b=st'.bx b):J0 g st o k=J0 g st' o k:=by
 have key: ∀ {x:Operand},x∈o.op.operands.toList→ ∀s,s∈Fi x→st.get s=st'.get s:=fun {x} hx s hs'=>hs s (by
  unfold Mj Ca
  exact List.mem_flatMap.2 ⟨x,hx,hs'⟩)
 unfold J0
 split
 ·rename_i x ho;rw[C4 (key (by rw[ho];simp[Op.operands]))]
 ·rename_i x ho;rw[C4 (key (by rw[ho];simp[Op.operands]))]
 ·rename_i c x y ho
  rw[A7z (key (by rw[ho];simp[Op.operands]))]
  apply Aiz;intro t;apply A0i;intro t
  cases t
  ·simp only[Bool.false_eq_true,if_false];rw[C4 (key (by rw[ho];simp[Op.operands]))]
  ·simp only[if_true];rw[C4 (key (by rw[ho];simp[Op.operands]))]
 ·rfl
 ·rename_i t x ho;rw[C4 (key (by rw[ho];simp[Op.operands]))]
 ·rename_i t x ho
  have hb': ∀p b off,evO g.ty st t x=some p→p= .box b off→st.bx b=st'.bx b:=by
   intro p b off h1 h2
   apply hb b
   unfold Ud
   rw[ho]
   simp only[h1,h2]
   simp
  rw[←C4 (st:=st) (st':=st') (key (x:=x) (by rw[ho];simp[Op.operands]))]
  apply Aiz;intro T
  cases hp:evO g.ty st t x with
  |none=>rfl
  |some p=>
   simp only[ob]
   cases p with
   |box b off=>simp only;rw[hb' _ b off hp rfl]
   |any=>rfl
   |v a xs=>rfl
   |el _ _ xs=>rfl
   |tup l=>rfl
 ·rename_i t x y ho;rw[C4 (key (x:=x) (by rw[ho];simp[Op.operands])),C4 (key (x:=y) (by rw[ho];simp[Op.operands]))]
 ·rename_i t x f ho;rw[C4 (key (x:=x) (by rw[ho];simp[Op.operands]))]
 ·rename_i t x i ho;rw[Jm (key (x:=x) (by rw[ho];simp[Op.operands])),Jn (key (x:=i) (by rw[ho];simp[Op.operands]))]
 ·rename_i t x f ho;rw[C4 (key (x:=x) (by rw[ho];simp[Op.operands]))]
 ·rename_i x ho;rw[C4 (key (x:=x) (by rw[ho];simp[Op.operands]))]
 ·rename_i op t x y u ho;rw[C4 (key (x:=x) (by rw[ho];simp[Op.operands])),C4 (key (x:=y) (by rw[ho];simp[Op.operands]))]
 ·rename_i op t x ho;rw[C4 (key (x:=x) (by rw[ho];simp[Op.operands]))]
 ·rename_i s d x ho;rw[Jm (key (x:=x) (by rw[ho];simp[Op.operands]))]
 ·rename_i t ps ho
  have: ∀T cs,Jc T g.ty st cs ps.toList=Jc T g.ty st' cs ps.toList:=fun T cs=>Amq (fun s hs'=>hs s (by unfold Mj;rw[ho];simpa [Op.operands] using hs'))
  simp only[this]
 ·rename_i t n ps ho
  have h0: ∀s,s∈Ca (ps.toList.map (·.2))→st.get s=st'.get s:=fun s hs'=>hs s (by unfold Mj;rw[ho];simpa [Op.operands] using hs')
  have h1: ∀cs,Mh cs st 0 ps.toList=Mh cs st' 0 ps.toList:=fun cs=>Ao6 h0
  have h2: ∀cs,Jd cs st 0 ps.toList=Jd cs st' 0 ps.toList:=fun cs=>Amr h0
  simp only[h1,h2,Aj2 h0]
 ·rename_i t x y ho;rw[Jn (key (x:=x) (by rw[ho];simp[Op.operands])),Jn (key (x:=y) (by rw[ho];simp[Op.operands]))]
 ·rename_i t x lo hi ho
  rw[Jm (key (x:=x) (by rw[ho];simp[Op.operands])),Atb (st:=st) (st':=st') (x:=lo) (fun s hs'=>hs s (by unfold Mj Ca;rw[ho];simp[Op.operands,Ca]at hs' ⊢;grind)),
   Atb (st:=st) (st':=st') (x:=hi) (fun s hs'=>hs s (by unfold Mj Ca;rw[ho];simp[Op.operands,Ca]at hs' ⊢;grind))]
 ·rename_i x i ho;rw[C4 (key (x:=x) (by rw[ho];simp[Op.operands]))]
 ·rename_i as ts ho
  have hk: ∀ {x:Operand},x∈as.toList→ ∀s,s∈Fi x→st.get s=st'.get s:=fun {x} hx=>key (by rw[ho];simpa [Op.operands,Call.operands] using hx)
  split
  ·rename_i x t hx _
   rw[Jm (hk (x:=x) (by rw[hx];simp))]
  ·rfl
 ·rename_i as ts ho
  have hk: ∀ {x:Operand},x∈as.toList→ ∀s,s∈Fi x→st.get s=st'.get s:=fun {x} hx=>key (by rw[ho];simpa [Op.operands,Call.operands] using hx)
  split
  ·rename_i x y t u hx _
   rw[Jm (hk (x:=x) (by rw[hx];simp)),Jm (hk (x:=y) (by rw[hx];simp))]
  ·rfl
 ·rename_i as ts ho
  have hk: ∀ {x:Operand},x∈as.toList→ ∀s,s∈Fi x→st.get s=st'.get s:=fun {x} hx=>key (by rw[ho];simpa [Op.operands,Call.operands] using hx)
  split
  ·rename_i x y hx
   rw[Jn (hk (x:=x) (by rw[hx];simp)),Jn (hk (x:=y) (by rw[hx];simp))]
  ·rfl
 ·rename_i as ts ho
  have hk: ∀ {x:Operand},x∈as.toList→ ∀s,s∈Fi x→st.get s=st'.get s:=fun {x} hx=>key (by rw[ho];simpa [Op.operands,Call.operands] using hx)
  split
  ·rename_i x y hx
   rw[Jn (hk (x:=x) (by rw[hx];simp)),Jn (hk (x:=y) (by rw[hx];simp))]
  ·rfl
 ·rename_i f as ts ho
  have hsl: ∀s,s∈Ca as.toList→st.get s=st'.get s:=fun s hs'=>hs s (by unfold Mj Ca;rw[ho];simp[Op.operands,Call.operands,Ca]at hs' ⊢;grind)
  rw[Ata (st:=st) (st':=st') hsl]
  have hP:=Ai0 (ty:=g.ty) (st:=st) (st':=st') (xs:=as.toList) (ts:=ts.toList) hsl
  have hB: ∀ps,Kp g.ty st as.toList ts.toList=some ps→ ∀b,b∈(ps.flatMap fun p=>match p with| .box b _=>[b]|_=>[])→st.bx b=st'.bx b:=fun ps hps b hb'=>hb b (by
   unfold Ud
   rw[ho]
   simp only[hps]
   exact hb')
  split
  ·rfl
  ·rfl
  ·rfl
  ·rw[←hP]
   cases hps:Kp g.ty st as.toList ts.toList with
   |none=>rfl
   |some ps=>
    simp only[ob]
    rw[Ai1 (hB ps hps)]
    split
    ·cases hbx:E0 _ ps with
     |none=>rfl
     |some b=>simp only;rw[hB ps hps b (As9 hbx)]
    ·rfl
  ·rw[←hP]
   cases hps:Kp g.ty st as.toList ts.toList with
   |none=>rfl
   |some ps=>
    simp only[ob]
    rw[Ai1 (hB ps hps)]
 ·rfl
def Ji (g:Cfg) (st:St) (o:Oper) (p:PV) (e:Ef):Prop:=J0 g st o (fun p e=>some (p,e))=some (p,e)
theorem Ji.of {ρ:Type} {g:Cfg} {st:St} {o:Oper} {k:PV→Ef→Option ρ} {r:ρ} (h:J0 g st o k=some r): ∃p e,Ji g st o p e∧k p e=some r:=by
 have h1:=Awl g st o (fun p e=>some (p,e)) (fun x=>k x.1 x.2)
 simp only[A0h]at h1
 rw[←h1]at h
 obtain⟨⟨p,e⟩,h2,h3⟩:=Ah h
 exact⟨p,e,h2,h3⟩
theorem Ji.to {ρ:Type} {g:Cfg} {st:St} {o:Oper} {p:PV} {e:Ef} (h:Ji g st o p e) (k:PV→Ef→Option ρ):J0 g st o k=k p e:=by
 have h1:=Awl g st o (fun p e=>some (p,e)) (fun x=>k x.1 x.2)
 simp only[A0h]at h1
 rw[←h1,h];rfl
end Go.Proofs.YtmhhajdeafijmaaGreat
namespace Go.Proofs.YtmhhajdeafijmaaGreat
open Go.RowKit
set_option linter.unusedVariables false
set_option linter.unusedSectionVars false
set_option linter.unusedSimpArgs false

def At (l:Nat×Nat) (a b:St):Prop:=
 match l.1 with
 |0=>a.get l.2=b.get l.2
 |1=>a.bx l.2=b.bx l.2
 |2=>(l.2∈a.live↔l.2∈b.live)∧(l.2∈a.used↔l.2∈b.used)
 |_=>True
theorem At.refl (l:Nat×Nat) (a:St):At l a a:=by
 unfold At;split<;>first|rfl|exact⟨Iff.rfl,Iff.rfl⟩|trivial
theorem At.symm {l:Nat×Nat} {a b:St} (h:At l a b):At l b a:=by
 unfold At at*;split<;>simp_all
theorem At.trans {l:Nat×Nat} {a b c:St} (h:At l a b) (k:At l b c):At l a c:=by
 unfold At at*;split<;>simp_all
def Ga (L:List (Nat×Nat)) (l:Nat×Nat):Prop:=l∈L∨(9,0)∈L
def Eqv (a b:St):Prop:=∀l,At l a b
def Wf (st:St):Prop:=st.live.Nodup∧ ∀t,t∈st.live→t∈st.used
theorem Afr: ∀ {l live live':List Nat},eat live l=some live'→live.Nodup→(∀t,t∈live'↔t∈live∧t∉l)∧l.Nodup∧ ∀t,t∈l→t∈live
 |[],live,live',h,hn=>by simp[eat]at h;subst h;exact⟨fun t=>by simp,List.nodup_nil,fun t h=>by cases h⟩
 |x::l,live,live',h,hn=>by
  simp only[eat]at h
  cases hc:live.contains x with
  |false=>rw[hc]at h;cases h
  |true=>
   rw[hc]at h
   obtain⟨h1,h2,h3⟩:=Afr h (hn.erase _)
   have hx:x∈live:=by simpa using hc
   refine⟨fun t=>?_,List.nodup_cons.2 ⟨fun hm=>(hn.mem_erase_iff.1 (h3 x hm)).1 rfl,h2⟩,fun t ht=>?_⟩
   ·rw[h1,hn.mem_erase_iff,List.mem_cons]
    constructor
    ·rintro⟨⟨a,b⟩,c⟩;exact⟨b,fun h=>h.elim a c⟩
    ·rintro⟨a,b⟩;exact⟨⟨fun e=>b (.inl e),a⟩,fun e=>b (.inr e)⟩
   ·rcases List.mem_cons.1 ht with e|ht'
    ·rw[e];exact hx
    ·exact List.mem_of_mem_erase (h3 t ht')
theorem A0l: ∀ {l live:List Nat},live.Nodup→l.Nodup→(∀t,t∈l→t∈live)→ ∃live',eat live l=some live'
 |[],live,_,_,_=>⟨live,rfl⟩
 |x::l,live,hn,hl,hm=>by
  have hx:live.contains x=true:=by simpa using hm x (by simp)
  have hl':=List.nodup_cons.1 hl
  obtain⟨live',h⟩:=A0l (hn.erase x) hl'.2 (fun t ht=>hn.mem_erase_iff.2 ⟨fun e=>hl'.1 (e▸ht),hm t (by simp[ht])⟩)
  exact⟨live',by simp only[eat,hx,cond_true];exact h⟩
theorem J3: ∀ {m used used':List Nat},N4 used m=some used'→m.Nodup
 |[],used,used',h=>List.nodup_nil
 |t::r,used,used',h=>by
  simp only[N4]at h
  cases hc:used.contains t with
  |true=>rw[hc]at h;cases h
  |false=>
   rw[hc]at h
   exact List.nodup_cons.2 ⟨fun hm=>(Gl h).2 t hm (by simp),J3 h⟩
theorem Anh: ∀ {m used:List Nat},m.Nodup→(∀t,t∈m→t∉used)→ ∃used',N4 used m=some used'
 |[],used,_,_=>⟨used,rfl⟩
 |x::m,used,hn,hm=>by
  have hx:used.contains x=false:=by
   cases hc:used.contains x with
   |false=>rfl
   |true=>exact(hm x (by simp) (List.contains_iff_mem.1 hc)).elim
  have hn':=List.nodup_cons.1 hn
  obtain⟨u,h⟩:=Anh (used:=x::used) hn'.2 (fun t ht he=>by
   rcases List.mem_cons.1 he with e|he'
   ·exact hn'.1 (e▸ht)
   ·exact hm t (by simp[ht]) he')
  exact⟨u,by simp only[N4,hx,cond_false];exact h⟩
theorem Ams {d:Option Nat} {ef:Ef} {s s1:St} (h:ef.app d s=some s1) (hw:Wf s):Wf s1:=by
 cases ef with
 |none=>simp[Ef.app]at h;rw[←h];exact hw
 |newBox cs=>
  obtain⟨n,hn,_⟩:=Ah h
  rw[(Qi hn h).2];exact hw
 |setBox b off xs=>
  obtain⟨cs,_,h⟩:=Ah h
  obtain⟨_,h⟩:=A2 h
  simp at h;rw[←h];exact hw
 |bx b cs m=>
  obtain⟨_,_,h⟩:=Ah h
  obtain⟨u,hu,h⟩:=Ah h
  simp at h;subst h
  obtain⟨b1,b2⟩:=Gl hu
  have b3:=J3 hu
  subst b1
  refine⟨List.nodup_append.2 ⟨(List.pairwise_reverse.2 (b3.imp fun h=>Ne.symm h)),hw.1,fun x hx y hy=>?_⟩,fun t ht=>?_⟩
  ·intro e;subst e
   exact b2 x (by simpa using hx) (hw.2 x hy)
  ·rcases List.mem_append.1 ht with h|h
   ·exact List.mem_append.2 (.inl h)
   ·exact List.mem_append.2 (.inr (hw.2 t h))
 |rs a m us=>
  obtain⟨l,hl,h⟩:=Ah h
  obtain⟨_,h⟩:=A2 h
  obtain⟨u,hu,h⟩:=Ah h
  simp at h;subst h
  obtain⟨b1,b2⟩:=Gl hu
  have b3:=J3 hu
  obtain⟨e1,e2⟩:=Xt hl hw.1
  subst b1
  refine⟨List.nodup_append.2 ⟨(List.pairwise_reverse.2 (b3.imp fun h=>Ne.symm h)),e2,fun x hx y hy=>?_⟩,fun t ht=>?_⟩
  ·intro e;subst e
   exact b2 x (by simpa using hx) (hw.2 x (e1 x hy))
  ·rcases List.mem_append.1 ht with h|h
   ·exact List.mem_append.2 (.inl h)
   ·exact List.mem_append.2 (.inr (hw.2 t (e1 t h)))
 |toks a m=>
  obtain⟨l,hl,h⟩:=Ah h
  obtain⟨u,hu,h⟩:=Ah h
  simp at h;subst h
  obtain⟨b1,b2⟩:=Gl hu
  have b3:=J3 hu
  obtain⟨e1,e2⟩:=Xt hl hw.1
  subst b1
  refine⟨List.nodup_append.2 ⟨(List.pairwise_reverse.2 (b3.imp fun h=>Ne.symm h)),e2,fun x hx y hy=>?_⟩,fun t ht=>?_⟩
  ·intro e;subst e
   exact b2 x (by simpa using hx) (hw.2 x (e1 x hy))
  ·rcases List.mem_append.1 ht with h|h
   ·exact List.mem_append.2 (.inl h)
   ·exact List.mem_append.2 (.inr (hw.2 t (e1 t h)))
theorem A5q {d:Option Nat} {ef:Ef} {s t s1:St} (hsim:ef.simple=true) (h:ef.app d s=some s1) (hs:Wf s) (ht:Wf t) (ha: ∀l,l∈Cf d ef→At l s t):
  ∃t1,ef.app d t=some t1∧(∀l,l∈Cf d ef→At l s1 t1)∧(∀l,l∉Cf d ef→At l t1 t∧At l s1 s):=by
 cases ef with
 |rs a m us=>cases hsim
 |bx b cs m=>
  obtain⟨c0,hc0,h⟩:=Ah h
  obtain⟨u1,hu1,h⟩:=Ah h
  simp at h;subst h
  obtain⟨b1,b2⟩:=Gl hu1
  have b3:=J3 hu1
  have hb:s.bx b=t.bx b:=ha (1,b) (by simp[Cf])
  have hloc: ∀x,x∈m→(x∈s.live↔x∈t.live)∧(x∈s.used↔x∈t.used):=fun x hx=>ha (2,x) (by simp[Cf];exact hx)
  obtain⟨u2,hu2⟩:=Anh (used:=t.used) b3 (fun x hx hm=>b2 x hx ((hloc x hx).2.2 hm))
  obtain⟨c1,_⟩:=Gl hu2
  subst b1 c1
  refine⟨_,by simp only[Ef.app,←hb,hc0,hu2,ob];rfl,fun l hl=>?_,fun l hl=>?_⟩
  ·simp only[Cf,List.mem_cons,List.mem_map]at hl
   rcases hl with rfl|⟨x,hx,rfl⟩
   ·show B7 b ((b,cs)::s.boxes)=B7 b ((b,cs)::t.boxes)
    simp[B7]
   ·obtain⟨q1,q2⟩:=hloc x hx
    exact⟨by simp only[List.mem_append,List.mem_reverse,q1],by simp only[List.mem_append,List.mem_reverse,q2]⟩
  ·have hl':l≠(1,b)∧ ∀x,l=(2,x)→x∉m:=⟨fun e=>hl (by simp[Cf,e]),fun x e hx=>hl (by simp[Cf,e,hx])⟩
   have key: ∀u:St,At l {u with boxes:=(b,cs)::u.boxes,live:=m.reverse++u.live,used:=m.reverse++u.used} u:=fun u=>by
    obtain⟨k,i⟩:=l
    match k with
    |0=>rfl
    |1=>
     show B7 i ((b,cs)::u.boxes)=B7 i u.boxes
     have hne:Nat.beq i b=false:=by
      cases hb:Nat.beq i b with
      |false=>rfl
      |true=>exact(hl'.1 (by rw[Nat.eq_of_beq_eq_true hb])).elim
     simp[B7,hne]
    |2=>
     have:=hl'.2 i rfl
     exact⟨by simp[this],by simp[this]⟩
    |k+3=>trivial
   exact⟨key t,key s⟩
 |none=>
  simp[Ef.app]at h;subst h
  exact⟨t,rfl,fun l hl=>(by cases hl),fun l _=>⟨At.refl _ _,At.refl _ _⟩⟩
 |newBox cs=>
  obtain⟨n,hn,_⟩:=Ah h
  subst hn
  obtain⟨h1,h2⟩:=Qi rfl h
  subst h2
  have hb:s.bx n=t.bx n:=ha (1,n) (by simp[Cf])
  have hh:t.has n=false:=by unfold St.has at*;rw[←hb];exact h1
  refine⟨{t with boxes:=(n,cs)::t.boxes},by simp[Ef.app,ob,hh],fun l hl=>?_,fun l hl=>?_⟩
  ·simp[Cf]at hl;subst hl
   show St.bx _ n=St.bx _ n
   rw[Jh,Jh];simp
  ·have hl':l≠(1,n):=fun e=>hl (by simp[Cf,e])
   have key: ∀u:St,At l {u with boxes:=(n,cs)::u.boxes} u:=fun u=>by
    obtain⟨k,i⟩:=l
    match k with
    |0=>rfl
    |1=>
     show St.bx _ i=St.bx _ i
     rw[Jh,if_neg (fun e=>hl' (by rw[e]))]
    |2=>exact⟨Iff.rfl,Iff.rfl⟩
    |k+3=>trivial
   exact⟨key t,key s⟩
 |setBox b off xs=>
  obtain⟨cs,hcs,h⟩:=Ah h
  obtain⟨hle,h⟩:=A2 h
  simp at h;subst h
  have hb:s.bx b=t.bx b:=ha (1,b) (by simp[Cf])
  refine⟨{t with boxes:=(b,Bi cs off xs)::t.boxes},by simp[Ef.app,ob,←hb,hcs,chk,hle],fun l hl=>?_,fun l hl=>?_⟩
  ·simp[Cf]at hl;subst hl
   show St.bx _ b=St.bx _ b
   rw[Jh,Jh];simp
  ·have hl':l≠(1,b):=fun e=>hl (by simp[Cf,e])
   have key: ∀u:St,At l {u with boxes:=(b,Bi cs off xs)::u.boxes} u:=fun u=>by
    obtain⟨k,i⟩:=l
    match k with
    |0=>rfl
    |1=>
     show St.bx _ i=St.bx _ i
     rw[Jh,if_neg (fun e=>hl' (by rw[e]))]
    |2=>exact⟨Iff.rfl,Iff.rfl⟩
    |k+3=>trivial
   exact⟨key t,key s⟩
 |toks a m=>
  obtain⟨l1,hl1,h⟩:=Ah h
  obtain⟨u1,hu1,h⟩:=Ah h
  simp at h;subst h
  obtain⟨e1,e2,e3⟩:=Afr hl1 hs.1
  obtain⟨b1,b2⟩:=Gl hu1
  have b3:=J3 hu1
  have hloc: ∀x,x∈a∨x∈m→(x∈s.live↔x∈t.live)∧(x∈s.used↔x∈t.used):=fun x hx=>ha (2,x) (by simp[Cf];exact hx)
  obtain⟨l2,hl2⟩:=A0l ht.1 e2 (fun x hx=>((hloc x (.inl hx)).1.1 (e3 x hx)))
  obtain⟨u2,hu2⟩:=Anh (used:=t.used) b3 (fun x hx hm=>b2 x hx ((hloc x (.inr hx)).2.2 hm))
  obtain⟨f1,_,_⟩:=Afr hl2 ht.1
  obtain⟨c1,_⟩:=Gl hu2
  subst b1 c1
  refine⟨_,by simp only[Ef.app,hl2,hu2,ob];rfl,fun l hl=>?_,fun l hl=>?_⟩
  ·simp only[Cf,List.mem_map]at hl
   obtain⟨x,hx,rfl⟩:=hl
   have hx':=List.mem_append.1 hx
   obtain⟨q1,q2⟩:=hloc x hx'
   refine⟨?_,?_⟩
   ·simp only[List.mem_append,List.mem_reverse,e1,f1,q1]
   ·simp only[List.mem_append,List.mem_reverse,q2]
  ·have hl': ∀x,l=(2,x)→x∉a∧x∉m:=fun x e=>by
    subst e
    simp[Cf]at hl
    exact hl
   obtain⟨k,i⟩:=l
   match k with
   |0=>exact⟨rfl,rfl⟩
   |1=>exact⟨rfl,rfl⟩
   |2=>
    obtain⟨q1,q2⟩:=hl' i rfl
    refine⟨⟨?_,?_⟩,⟨?_,?_⟩⟩
    ·simp only[List.mem_append,List.mem_reverse,f1];simp[q1,q2]
    ·simp only[List.mem_append,List.mem_reverse];simp[q2]
    ·simp only[List.mem_append,List.mem_reverse,e1];simp[q1,q2]
    ·simp only[List.mem_append,List.mem_reverse];simp[q2]
   |k+3=>exact⟨trivial,trivial⟩

theorem Atc {l1 l2:List Nat} (h: ∀t,t∈l1↔t∈l2) (us:List (Nat×Sg)) (x:Cl):Hs l1 us x=Hs l2 us x:=by
 obtain⟨sh,val,tok⟩:=x
 cases tok with
 |own t=>
  simp only[Hs]
  have:l1.contains t=l2.contains t:=by
   cases h1:l1.contains t with
   |true=>exact(List.contains_iff_mem.2 ((h t).1 (List.contains_iff_mem.1 h1))).symm
   |false=>
    cases h2:l2.contains t with
    |false=>rfl
    |true=>rw[List.contains_iff_mem.2 ((h t).2 (List.contains_iff_mem.1 h2))]at h1;cases h1
  rw[this]
 |_=>rfl
theorem A2i {l1 l2:List Nat} (h: ∀t,t∈l1↔t∈l2) (us:List (Nat×Sg)) (p:PV):Nv l1 us p=Nv l2 us p:=by
 have hk:Hs l1 us=Hs l2 us:=funext fun x=>Atc h us x
 cases p with
 |el p ro xs=>cases ro<;>simp only[Nv,hk]
 |_=>simp only[Nv,hk]
theorem Amt {d:Option Nat} {ef:Ef} {s t s1:St} (h:ef.app d s=some s1) (hs:Wf s) (ht:Wf t) (ha: ∀l,Ga (Cf d ef) l→At l s t):
  ∃t1,ef.app d t=some t1∧(∀l,Ga (Cf d ef) l→At l s1 t1)∧(∀l,¬Ga (Cf d ef) l→At l t1 t∧At l s1 s):=by
 cases hsim:ef.simple with
 |true=>
  have hno:(9,0)∉Cf d ef:=by
   cases ef with
   |rs a m us=>cases hsim
   |none=>simp[Cf]
   |newBox cs=>cases d<;>simp[Cf]
   |setBox b off xs=>simp[Cf]
   |toks a m=>simp[Cf]
   |bx b cs m=>simp[Cf]
  have hT: ∀l,Ga (Cf d ef) l↔l∈Cf d ef:=fun l=>⟨fun q=>q.resolve_right hno,fun q=>.inl q⟩
  obtain⟨t1,k1,k2,k3⟩:=A5q hsim h hs ht (fun l hl=>ha l ((hT l).2 hl))
  exact⟨t1,k1,fun l hl=>k2 l ((hT l).1 hl),fun l hl=>k3 l (fun q=>hl ((hT l).2 q))⟩
 |false=>
  cases ef with
  |rs a m us=>
   have hall: ∀l,Ga (Cf d (.rs a m us)) l:=fun l=>.inr (by simp[Cf])
   obtain⟨l1,hl1,h⟩:=Ah h
   obtain⟨hus,h⟩:=A2 h
   obtain⟨u1,hu1,h⟩:=Ah h
   simp at h;subst h
   obtain⟨e1,e2,e3⟩:=Afr hl1 hs.1
   obtain⟨b1,b2⟩:=Gl hu1
   have b3:=J3 hu1
   have hloc: ∀x,(x∈s.live↔x∈t.live)∧(x∈s.used↔x∈t.used):=fun x=>ha (2,x) (hall _)
   obtain⟨l2,hl2⟩:=A0l ht.1 e2 (fun x hx=>((hloc x).1.1 (e3 x hx)))
   obtain⟨u2,hu2⟩:=Anh (used:=t.used) b3 (fun x hx hm=>b2 x hx ((hloc x).2.2 hm))
   obtain⟨f1,_,_⟩:=Afr hl2 ht.1
   obtain⟨c1,_⟩:=Gl hu2
   subst b1 c1
   have hll: ∀x,x∈l1↔x∈l2:=fun x=>by rw[e1,f1,(hloc x).1]
   have hus2:(us.all fun u=>l2.contains u.1)=true:=by
    rw[List.all_eq_true]at hus ⊢
    intro u hu
    have:=hus u hu
    exact List.contains_iff_mem.2 ((hll _).1 (List.contains_iff_mem.1 this))
   refine⟨_,by simp only[Ef.app,hl2,hu2,ob,hus2,chk];rfl,fun l _=>?_,fun l hl=>(hl (hall l)).elim⟩
   obtain⟨k,i⟩:=l
   match k with
   |0=>
    show look i (s.env.map fun p=>(p.1,Nv l1 us p.2))=look i (t.env.map fun p=>(p.1,Nv l2 us p.2))
    rw[Aa5 (Nv l1 us) rfl,Aa5 (Nv l2 us) rfl]
    have:look i s.env=look i t.env:=ha (0,i) (hall _)
    rw[this];exact A2i hll us _
   |1=>
    show B7 i (s.boxes.map fun b=>(b.1,b.2.map (Hs l1 us)))=B7 i (t.boxes.map fun b=>(b.1,b.2.map (Hs l2 us)))
    rw[Tj (fun cs=>cs.map (Hs l1 us)),Tj (fun cs=>cs.map (Hs l2 us))]
    have:B7 i s.boxes=B7 i t.boxes:=ha (1,i) (hall _)
    rw[this,show Hs l1 us=Hs l2 us from funext fun x=>Atc hll us x]
   |2=>exact⟨by simp only[List.mem_append,hll],by simp only[List.mem_append,(hloc i).2]⟩
   |k+3=>trivial
  |_=>cases hsim
theorem A3l {i:Nat} {a b:St} (h:At (0,i) a b):a.get i=b.get i:=h
theorem Atd {st:St} {d:Option Nat} {p:PV} {l:Nat×Nat} (h: ∀i,d=some i→l≠(0,i)):At l (st.put d p) st:=by
 cases d with
 |none=>exact At.refl _ _
 |some i=>
  obtain⟨k,j⟩:=l
  match k with
  |0=>
   show(st.set i p).get j=st.get j
   rw[Xs,if_neg (fun e=>h i rfl (by rw[e]))]
  |1=>rfl
  |2=>exact⟨Iff.rfl,Iff.rfl⟩
  |k+3=>trivial
theorem Auz {a b:St} {d:Option Nat} {p:PV} {l:Nat×Nat} (h: ∀i,d=some i→l≠(0,i)) (hl:At l a b):At l (a.put d p) (b.put d p):=((Atd h).trans hl).trans (Atd h).symm
theorem Aqs {a b:St} {i:Nat} {p:PV}:At (0,i) (a.put (some i) p) (b.put (some i) p):=by
 show(a.set i p).get i=(b.set i p).get i
 rw[Xs,Xs];simp
theorem Ni {st:St} (h:Wf st) (d:Option Nat) (p:PV):Wf (st.put d p):=by cases d<;>exact h
def Ans (all:List Oper) (st:St) (o:Oper) (b:Bool):Prop:=
 match o.guard with
 |none=>b=true
 |some (j,want)=>∃oj d,all[j]? =some oj∧oj.dst=some d∧((∃c,st.get d= .v false [⟨.bool,c,.nil⟩]∧b=decide (c=want))∨(st.get d= .tup []∧b=false))
structure StepOk (g:Cfg) (all:List Oper) (np nt:Nat) (o:Oper) (s:Stp) (st st':St):Prop where
 hd: ∀i,o.dst=some i→np≤i∧i<nt
 ans:Ans all st o s.on
 run:s.on=true→Ji g st o s.pv s.ef∧s.rb=Ud g st o
 off:s.on=false→s.pv= .tup []∧s.ef= .none∧s.rb=[]
 app: ∃st1,s.ef.app o.dst st=some st1∧Eqv (st1.put o.dst s.pv) st'
 wf:Wf st'
theorem A9y {st:St} {d:Nat} {x:PV} (h:st.get d=x):Eqv (st.set d x) st:=by
 intro l
 obtain⟨k,j⟩:=l
 match k with
 |0=>
  show(st.set d x).get j=st.get j
  rw[Xs]
  by_cases hj:j=d
  ·subst hj;rw[if_pos rfl,h]
  ·rw[if_neg hj]
 |1=>rfl
 |2=>exact⟨Iff.rfl,Iff.rfl⟩
 |k+3=>trivial
theorem A5r {g:Cfg} {st st':St} {o:Oper} (hs: ∀s,s∈Mj o→st.get s=st'.get s):Ud g st o=Ud g st' o:=by
 unfold Ud
 split
 ·rename_i t x ho
  rw[C4 (st:=st) (st':=st') (fun s hs'=>hs s (by unfold Mj Ca;rw[ho];simpa [Op.operands] using hs'))]
 ·rename_i f as ts ho
  rw[Ai0 (st:=st) (st':=st') (fun s hs'=>hs s (by unfold Mj Ca;rw[ho];simp[Op.operands,Call.operands,Ca]at hs' ⊢;grind))]
 ·rfl
theorem Ji.congr {g:Cfg} {st st':St} {o:Oper} {p:PV} {e:Ef} (h:Ji g st o p e) (hs: ∀s,s∈Mj o→st.get s=st'.get s) (hb: ∀b,b∈Ud g st o→st.bx b=st'.bx b):Ji g st' o p e:=by
 unfold Ji;rw[←A2h _ hs hb];exact h
inductive RunT (g:Cfg) (all:List Oper) (np nt:Nat):List Oper→St→List Stp→St→Prop
 |nil (st:St):RunT g all np nt [] st [] st
 |cons {o:Oper} {r:List Oper} {s:Stp} {tr:List Stp} {st st1 st2:St} (h:StepOk g all np nt o s st st1) (t:RunT g all np nt r st1 tr st2):RunT g all np nt (o::r) st (s::tr) st2
theorem Tk {g:Cfg} {all:List Oper} {np nt:Nat} {ρ:Type} {r:ρ} {k:List Stp→St→Option ρ}: ∀ {l:List Oper} {st:St} {tr:List Stp},Wf st→Ab6 g all np nt l st tr k=some r→
  ∃tr' stn,RunT g all np nt l st tr' stn∧k (tr.reverse++tr') stn=some r∧Wf stn
 |[],st,tr,hw,h=>⟨[],st,.nil st,by rw[List.append_nil];exact h,hw⟩
 |o::l,st,tr,hw,h=>by
  simp only[Ab6]at h
  obtain⟨hb,h⟩:=A2 h
  have hd: ∀i,o.dst=some i→np≤i∧i<nt:=fun i hi=>by
   rw[hi]at hb
   simp only[Bool.and_eq_true]at hb
   have hb':Nat.ble (i+1) nt=true:=hb.2
   exact⟨Nat.le_of_ble_eq_true hb.1,Nat.le_of_ble_eq_true hb'⟩
  cases hg:o.guard with
  |none=>
   rw[hg]at h
   obtain⟨p,e,hc,h⟩:=Ji.of h
   obtain⟨st1,ha,h⟩:=Ah h
   obtain⟨tr',stn,hr,hk,hwn⟩:=Tk (Ni (Ams ha hw) _ _) h
   refine⟨_,stn,.cons (s:=⟨true,p,e,Ud g st o⟩) ⟨hd,by simp[Ans,hg],fun _=>⟨hc,rfl⟩,fun h=>(by cases h),⟨st1,ha,fun l=>At.refl _ _⟩,Ni (Ams ha hw) _ _⟩ hr,by simpa using hk,hwn⟩
  |some jw=>
   obtain⟨j,want⟩:=jw
   rw[hg]at h
   simp only at h
   obtain⟨oj,hoj,h⟩:=Ah h
   obtain⟨d,hdj,h⟩:=Ah h
   cases hun:Auq (st.get d)with
   |true=>
    rw[hun]at h
    have hgd:=A3b hun
    obtain⟨tr',stn,hr,hk,hwn⟩:=Tk (Ni hw _ _) h
    exact⟨_,stn,.cons (s:=⟨false,.tup [],.none,[]⟩) ⟨hd,by simp only[Ans,hg];exact⟨oj,d,hoj,hdj,.inr ⟨hgd,by trivial⟩⟩,fun h=>(by cases h),fun _=>⟨rfl,rfl,rfl⟩,⟨st,rfl,fun l=>At.refl _ _⟩,Ni hw _ _⟩ hr,by simpa using hk,hwn⟩
   |false=>
   rw[hun]at h
   simp only[cond_false]at h
   split at h
   ·rename_i b hgd
    have h:=Ane h
    have hE:=A9y hgd
    have hw1:Wf (st.set d (.v false [⟨.bool,b,.nil⟩])):=hw
    split at h
    ·rename_i hbw
     obtain⟨p,e,hc,h⟩:=Ji.of h
     obtain⟨st1,ha,h⟩:=Ah h
     obtain⟨tr',stn,hr,hk,hwn⟩:=Tk (Ni (Ams ha hw1) _ _) h
     obtain⟨st1',ha',q1,q2⟩:=Amt ha hw1 hw (fun l _=>hE l)
     have hc':Ji g st o p e:=hc.congr (fun s _=>hE (0,s)) (fun b _=>hE (1,b))
     refine⟨_,stn,.cons (s:=⟨true,p,e,Ud g (st.set d (.v false [⟨.bool,b,.nil⟩])) o⟩) ⟨hd,by simp only[Ans,hg];exact⟨oj,d,hoj,hdj,.inl ⟨b,hgd,by simp[hbw]⟩⟩,fun _=>⟨hc',A5r (fun s _=>hE (0,s))⟩,fun h=>(by cases h),⟨st1',ha',fun l=>?_⟩,Ni (Ams ha hw1) _ _⟩ hr,by simpa using hk,hwn⟩
     have hl:At l st1' st1:=by
      by_cases hl:Ga (Cf o.dst e) l
      ·exact(q1 l hl).symm
      ·exact((q2 l hl).1.trans (hE l).symm).trans (q2 l hl).2.symm
     by_cases hdl: ∃i,o.dst=some i∧l=(0,i)
     ·obtain⟨i,hi,rfl⟩:=hdl
      rw[hi];exact Aqs
     ·exact Auz (fun i hi e=>hdl ⟨i,hi,e⟩) hl
    ·rename_i hbw
     obtain⟨tr',stn,hr,hk,hwn⟩:=Tk (Ni hw1 _ _) h
     refine⟨_,stn,.cons (s:=⟨false,.tup [],.none,[]⟩) ⟨hd,by simp only[Ans,hg];exact⟨oj,d,hoj,hdj,.inl ⟨b,hgd,by simp[hbw]⟩⟩,fun h=>(by cases h),fun _=>⟨rfl,rfl,rfl⟩,⟨st,rfl,fun l=>?_⟩,Ni hw1 _ _⟩ hr,by simpa using hk,hwn⟩
     by_cases hdl: ∃i,o.dst=some i∧l=(0,i)
     ·obtain⟨i,hi,rfl⟩:=hdl
      rw[hi];exact Aqs
     ·exact Auz (fun i hi e=>hdl ⟨i,hi,e⟩) (hE l).symm
   ·cases h
theorem RunT.seq {g:Cfg} {all:List Oper} {np nt:Nat} {l:List Oper} {st stn:St} {tr:List Stp} (h:RunT g all np nt l st tr stn):tr.length=l.length∧ ∃S:Nat→St,S 0=st∧S l.length=stn∧ ∀i o s,l[i]? =some o→tr[i]? =some s→StepOk g all np nt o s (S i) (S (i+1)):=by
 induction h with
 |nil st=>exact⟨rfl,fun _=>st,rfl,rfl,fun i o s h=>by simp at h⟩
 | @cons o r s tr st st1 st2 hs _ ih=>
  obtain⟨h1,S,h2,h3,h4⟩:=ih
  refine⟨by simp[h1],fun n=>match n with|0=>st|n+1=>S n,rfl,h3,fun i o' s' ho hs'=>?_⟩
  cases i with
  |zero=>simp at ho hs';subst ho hs';simp only[h2];exact hs
  |succ i=>simp at ho hs';exact h4 i o' s' ho hs'
end Go.Proofs.YtmhhajdeafijmaaGreat
namespace Go.Proofs.YtmhhajdeafijmaaGreat
open Go.RowKit
set_option linter.unusedVariables false
set_option linter.unusedSectionVars false
set_option linter.unusedSimpArgs false

theorem Eqv.ext {g:Gh} {a b:St} (h:Eqv a b):Ext g a g b:=
 ⟨fun _ _ _ h=>h,fun _ _=>rfl,fun k hk=>by have:a.bx k=b.bx k:=h (1,k);unfold St.has at*;rw[←this];exact hk,fun t ht=>((h (2,t)).2).1 ht,fun t ht _=>⟨((h (2,t)).1).2 ht,rfl,rfl,rfl,fun _ _ _=>rfl⟩⟩
theorem RM.eqv {cx:Cx} {w:World} {g:Gh} {a b:St} (h:RM cx g a w) (he:Eqv a b) (hn:b.live.Nodup):RM cx g b w:=by
 have hh: ∀k,b.has k=true→a.has k=true:=fun k hk=>by have:a.bx k=b.bx k:=he (1,k);unfold St.has at*;rw[this];exact hk
 have hl: ∀t,t∈b.live→t∈a.live:=fun t ht=>((he (2,t)).1).2 ht
 refine⟨h.moved,h.lies,h.g0,h.old,fun k cs hk=>?_,fun i j hi hj=>h.inj i j (hh i hi) (hh j hj),fun k o hk=>h.boxG k o (hh k hk),fun t ht=>?_,fun t u ht hu=>h.apart t u (hl t ht) (hl u hu),fun t k ht hk=>h.tokBox t k (hl t ht) (hh k hk),hn,h.new⟩
 ·have:a.bx k=b.bx k:=he (1,k)
  obtain⟨vs,e,h1,h2,h3⟩:=h.box k cs (by rw[this];exact hk)
  exact⟨vs,e,h1,h2,h3.ext he.ext⟩
 ·obtain⟨h1,h2⟩:=h.tok t (hl t ht)
  exact⟨((he (2,t)).2).1 h1,h2⟩
theorem Env.eqv {nt:Nat} {cx:Cx} {g:Gh} {a b:St} {x:Act} (h:Env nt cx g a x) (he:Eqv a b):Env nt cx g b x:=
 ⟨h.1,h.2.1,fun i=>by have:a.get i=b.get i:=he (0,i);rw[←this];exact(h.2.2.1 i).ext he.ext,h.2.2.2⟩

def Ai2 (ops:List Oper) (D:Nat→Prop) (j:Nat):Prop:=∀o,ops[j]? =some o→ ∀e,e∈o.after.toList→Region.binds .any e=true→D e.on
def Afs (ops:List Oper) (D:Nat→Prop):Prop:=∀j,D j→Ai2 ops D j
theorem A3m (ops:List Oper) (D:Nat→Prop) (hD:Afs ops D): ∀(l:List Oper) (acc:List (List Nat)),(∀k,l[k]? =ops[acc.length+k]?)→
  (∀j,Ai2 ops D j→ ∀i,i∈acc.getD j []→D i)→ ∀j,Ai2 ops D j→ ∀i,i∈(A9f l acc).getD j []→D i
 |[],acc,_,h=>h
 |o::r,acc,hl,h=>by
  refine A3m ops D hD r _ (fun k=>?_) (fun j hj i hi=>?_)
  ·have:=hl (k+1)
   simp only[List.getElem?_cons_succ]at this
   rw[this,List.length_append,List.length_singleton]
   congr 1;omega
  ·rw[List.getD_eq_getElem?_getD]at hi
   by_cases hjl:j<acc.length
   ·rw[List.getElem?_append_left hjl]at hi
    exact h j hj i (by rw[List.getD_eq_getElem?_getD];exact hi)
   ·rw[List.getElem?_append_right (by omega)]at hi
    by_cases hje:j=acc.length
    ·subst hje
     simp only[Nat.sub_self,List.getElem?_cons_zero,Option.getD_some]at hi
     obtain⟨e,he,hi⟩:=List.mem_flatMap.1 hi
     obtain⟨he1,he2⟩:=List.mem_filter.1 he
     have ho:ops[acc.length]? =some o:=by have:=hl 0;simpa using this.symm
     have hon:=hj o ho e he1 he2
     rcases List.mem_cons.1 hi with q|q
     ·rw[q];exact hon
     ·exact h e.on (hD e.on hon) i q
    ·rw[List.getElem?_eq_none (by simp;omega)]at hi
     simp at hi
theorem Sl {a b:List (Nat×Nat)} (h:Axr a b=false): ∀l,l∈a→l∉b:=by
 intro l ha hb
 unfold Axr at h
 rw[List.any_eq_false]at h
 have h1:=h l ha
 simp only[List.any_eq_true,not_exists,not_and]at h1
 have h2:=h1 l hb
 simp at h2
def A0m (all:List Oper) (o:Oper) (s:Stp) (o':Oper) (s':Stp):Prop:=
 (∀l,Ga (wrL o s) l→ ¬Ga (wrL o' s') l∧l∉rdL all o' s')∧ ∀l,l∈rdL all o s→ ¬Ga (wrL o' s') l
theorem Awm {all:List Oper} {an:List Nat} {oj:Oper} {sj:Stp}: ∀ {os:List Oper} {ss:List Stp} {k:Nat},Asy all an oj sj k os ss=true→ ∀i o s,os[i]? =some o→ss[i]? =some s→(k+i)∈an∨A0m all o s oj sj
 |[],_,k,h,i,o,s,ho,_=>by simp at ho
 |_::_,[],k,h,i,o,s,_,hs=>by simp at hs
 |o0::os,s0::ss,k,h,i,o,s,ho,hs=>by
  simp only[Asy,Bool.and_eq_true,Bool.or_eq_true,Bool.not_eq_true',Bool.or_eq_false_iff]at h
  cases i with
  |zero=>
   simp at ho hs;subst ho hs
   rcases h.1 with q|q
   ·left;simpa using q
   ·right
    have w1:(9,0)∉wrL o0 s0:=fun hm=>Sl q.1 _ hm (List.mem_append.2 (.inr (by simp[rdL])))
    have w2:(9,0)∉wrL oj sj:=fun hm=>Sl q.2 (9,0) (by simp[rdL]) hm
    refine⟨fun l hl=>?_,fun l hl ht=>?_⟩
    ·have:=Sl q.1 l (hl.resolve_right w1)
     exact⟨fun hm=>this (List.mem_append.2 (.inl (hm.resolve_right w2))),fun hm=>this (List.mem_append.2 (.inr hm))⟩
    ·exact Sl q.2 l hl (ht.resolve_right w2)
  |succ i=>
   simp at ho hs
   have:=Awm h.2 i o s ho hs
   rw[show k+(i+1)=k+1+i by omega];exact this
theorem Ai3 {all:List Oper} {tr:List Stp} {an:List (List Nat)}: ∀ {os:List Oper} {ss:List Stp} {k:Nat},Anb all tr an k os ss=true→ ∀j o s,os[j]? =some o→ss[j]? =some s→
  (∀e,e∈o.after.toList→Region.binds .any e=true→e.on<k+j)∧ ∀i o' s',i<k+j→all[i]? =some o'→tr[i]? =some s'→i∈an.getD (k+j) []∨A0m all o' s' o s
 |[],_,k,h,j,o,s,ho,_=>by simp at ho
 |_::_,[],k,h,j,o,s,_,hs=>by simp at hs
 |o0::os,s0::ss,k,h,j,o,s,ho,hs=>by
  simp only[Anb,Bool.and_eq_true]at h
  cases j with
  |zero=>
   simp at ho hs;subst ho hs
   refine⟨fun e he hb=>?_,fun i o' s' hi h1 h2=>?_⟩
   ·have:=(List.all_eq_true.1 h.1.1) e he
    rw[hb]at this
    have h2:Nat.ble (e.on+1) k=true:=this
    have:=Nat.le_of_ble_eq_true h2;omega
   ·have:=Awm h.1.2 i o' s' (by rw[List.getElem?_take,if_pos (by omega)];exact h1) (by rw[List.getElem?_take,if_pos (by omega)];exact h2)
    simpa using this
  |succ j=>
   simp at ho hs
   have:=Ai3 h.2 j o s ho hs
   rw[show k+(j+1)=k+1+j by omega];exact this
end Go.Proofs.YtmhhajdeafijmaaGreat
namespace Go.Proofs.YtmhhajdeafijmaaGreat
open Go.RowKit
set_option linter.unusedVariables false
set_option linter.unusedSectionVars false
set_option linter.unusedSimpArgs false

theorem Awn {p q:Nat→Bool}: ∀ {l:List Nat},(∀x,x∈l→q x=true→p x=true)→ ∀i,i∈l→p i=true→q i=false→(l.filter q).length<(l.filter p).length
 |[],_,i,h,_,_=>by cases h
 |x::l,hpq,i,hi,hp,hq=>by
  have hle: ∀ {l:List Nat},(∀x,x∈l→q x=true→p x=true)→(l.filter q).length≤(l.filter p).length:=by
   intro l
   induction l with
   |nil=>intro _;simp
   |cons y l ih=>
    intro h
    have ih':=ih (fun x hx=>h x (by simp[hx]))
    cases hqy:q y with
    |true=>rw[List.filter_cons_of_pos hqy,List.filter_cons_of_pos (h y (by simp) hqy)];simp;exact ih'
    |false=>
     rw[List.filter_cons_of_neg (by simp[hqy])]
     cases hpy:p y with
     |true=>rw[List.filter_cons_of_pos hpy];simp;omega
     |false=>rw[List.filter_cons_of_neg (by simp[hpy])];exact ih'
  have hl:=hle (l:=l) (fun x hx=>hpq x (by simp[hx]))
  rcases List.mem_cons.1 hi with e|hi'
  ·subst e
   rw[List.filter_cons_of_pos hp,List.filter_cons_of_neg (by simp[hq])];simp;omega
  ·have ih:=Awn (fun x hx=>hpq x (by simp[hx])) i hi' hp hq
   cases hqx:q x with
   |true=>rw[List.filter_cons_of_pos hqx,List.filter_cons_of_pos (hpq x (by simp) hqx)];simp;exact ih
   |false=>
    rw[List.filter_cons_of_neg (by simp[hqx])]
    cases hpx:p x with
    |true=>rw[List.filter_cons_of_pos hpx];simp;omega
    |false=>rw[List.filter_cons_of_neg (by simp[hpx])];exact ih
theorem Aqt {o:Oper} {s:Stp} {l:Nat×Nat} (h:Ga (Cf o.dst s.ef) l):Ga (wrL o s) l:=by
 rcases h with h|h
 ·exact .inl (List.mem_append.2 (.inr h))
 ·exact .inr (List.mem_append.2 (.inr h))
section
variable {P:Program} {g:Cfg} (hC:CfgOk P g) {cx:Cx} {np nt:Nat} {ops:Array Oper} {tr:List Stp} {S:Nat→St}
structure InOrder (g:Cfg) (np nt:Nat) (all:List Oper) (tr:List Stp) (S:Nat→St):Prop where
 len:tr.length=all.length
 step: ∀i o s,all[i]? =some o→tr[i]? =some s→StepOk g all np nt o s (S i) (S (i+1))
 wf:Wf (S 0)
 ind:A5e all tr=true
theorem InOrder.wfAt {all:List Oper} (h:InOrder g np nt all tr S): ∀i,i≤all.length→Wf (S i)
 |0,_=>h.wf
 |i+1,hi=>(h.step i _ _ (List.getElem?_eq_getElem (by omega)) (List.getElem?_eq_getElem (by rw[h.len];omega))).wf
theorem InOrder.frame {all:List Oper} (h:InOrder g np nt all tr S) {i:Nat} {o:Oper} {s:Stp} (ho:all[i]? =some o) (hs:tr[i]? =some s) {l:Nat×Nat} (hl: ¬Ga (wrL o s) l):At l (S i) (S (i+1)):=by
 have hst:=h.step i o s ho hs
 have hi:i<all.length:=(List.getElem?_eq_some_iff.1 ho).1
 obtain⟨st1,ha,he⟩:=hst.app
 have hw:=h.wfAt i (by omega)
 obtain⟨t1,ha',q1,q2⟩:=Amt ha hw hw (fun l _=>At.refl _ _)
 have hle: ¬Ga (Cf o.dst s.ef) l:=fun hm=>hl (Aqt hm)
 have hld: ∀d,o.dst=some d→l≠(0,d):=fun d hd e=>hl (.inl (List.mem_append.2 (.inl (by rw[hd];simp[e]))))
 exact((Atd hld).trans (q2 l hle).2).symm.trans (he l)
theorem InOrder.between {all:List Oper} (h:InOrder g np nt all tr S) {l:Nat×Nat}: ∀(k a:Nat),a+k≤all.length→(∀j o s,a≤j→j<a+k→all[j]? =some o→tr[j]? =some s→ ¬Ga (wrL o s) l)→At l (S a) (S (a+k))
 |0,a,_,_=>At.refl _ _
 |k+1,a,hle,hno=>by
  have h1:=h.between k a (by omega) (fun j o s h1 h2=>hno j o s h1 (by omega))
  refine h1.trans ?_
  exact h.frame (List.getElem?_eq_getElem (by omega)) (List.getElem?_eq_getElem (by rw[h.len];omega)) (hno (a+k) _ _ (by omega) (by omega) (List.getElem?_eq_getElem (by omega)) (List.getElem?_eq_getElem (by rw[h.len];omega)))
theorem InOrder.ord {all:List Oper} (h:InOrder g np nt all tr S) {D:Nat→Prop} (hD:Afs all D) {i j:Nat} {oi oj:Oper} {si sj:Stp} (hij:i<j) (h1:all[i]? =some oi) (h2:tr[i]? =some si) (h3:all[j]? =some oj) (h4:tr[j]? =some sj)
  (hp:Ai2 all D j):D i∨A0m all oi si oj sj:=by
 have:=(Ai3 (k:=0) h.ind j oj sj h3 h4).2 i oi si (by omega) h1 h2
 rw[Nat.zero_add]at this
 rcases this with q|q
 ·exact .inl (A3m all D hD all [] (fun k=>by simp) (fun j _ i hi=>by simp at hi) j hp i q)
 ·exact .inr q
def Nj (all:List Oper) (tr:List Stp) (S:Nat→St) (D:Nat→Prop) (st:St):Prop:=
 ∀l,∃m,At l st (S m)∧m≤all.length∧(m=0∨ ∃j o s,m=j+1∧D j∧all[j]? =some o∧tr[j]? =some s∧Ga (wrL o s) l)∧ ∀j o s,D j→all[j]? =some o→tr[j]? =some s→Ga (wrL o s) l→j<m
theorem Nj.reads {all:List Oper} (h:InOrder g np nt all tr S) {D:Nat→Prop} (hD:Afs all D) {st:St} (hS:Nj all tr S D st) {i:Nat} {o:Oper} {s:Stp} (ho:all[i]? =some o) (hs:tr[i]? =some s) (hi: ¬D i) (hp:Ai2 all D i)
  {l:Nat×Nat} (hl:l∈rdL all o s∨Ga (wrL o s) l):At l st (S i):=by
 obtain⟨m,h1,h2,h3,h4⟩:=hS l
 have hil:i<all.length:=(List.getElem?_eq_some_iff.1 ho).1
 refine h1.trans ?_
 rcases Nat.le_total m i with hmi|hmi
 ·have:=h.between (l:=l) (i-m) m (by omega) (fun j o' s' hj1 hj2 ho' hs' hw=>by
   rcases h.ord hD (show j<i by omega) ho' hs' ho hs hp with q|q
   ·have:=h4 j o' s' q ho' hs' hw;omega
   ·rcases hl with hl|hl
    ·exact(q.1 l hw).2 hl
    ·exact(q.1 l hw).1 hl)
  rwa [show m+(i-m)=i by omega]at this
 ·rcases h3 with h3|⟨j,o',s',rfl,hDj,ho',hs',hw⟩
  ·have:m=i:=by omega
   subst this;exact At.refl _ _
  ·rcases Nat.lt_or_ge j i with hji|hji
   ·have:j+1=i:=by omega
    rw[this];exact At.refl _ _
   ·exfalso
    rcases Nat.eq_or_lt_of_le hji with e|hlt
    ·exact hi (e▸hDj)
    ·rcases h.ord hD hlt ho hs ho' hs' (hD j hDj)with q|q
     ·exact hi q
     ·rcases hl with hl|hl
      ·exact q.2 l hl hw
      ·exact(q.1 l hl).1 hw
theorem Nj.all {all:List Oper} (h:InOrder g np nt all tr S) {D:Nat→Prop} (hall: ∀j,j<all.length→D j) {st:St} (hS:Nj all tr S D st):Eqv st (S all.length):=by
 intro l
 obtain⟨m,h1,h2,_,h4⟩:=hS l
 have:=h.between (l:=l) (all.length-m) m (by omega) (fun j o s hj1 hj2 ho hs hw=>by
  have:=h4 j o s (hall j (by omega)) ho hs hw;omega)
 rw[show m+(all.length-m)=all.length by omega]at this
 exact h1.trans this
theorem Nj.next {all:List Oper} (h:InOrder g np nt all tr S) {D:Nat→Prop} (hD:Afs all D) {st:St} (hw:Wf st) (hS:Nj all tr S D st) {i:Nat} {o:Oper} {s:Stp} (ho:all[i]? =some o) (hs:tr[i]? =some s) (hi: ¬D i) (hp:Ai2 all D i):
  Ans all st o s.on∧(s.on=true→Ji g st o s.pv s.ef)∧ ∃t1,s.ef.app o.dst st=some t1∧Wf t1∧Nj all tr S (fun j=>D j∨j=i) (t1.put o.dst s.pv):=by
 have hil:i<all.length:=(List.getElem?_eq_some_iff.1 ho).1
 have hst:=h.step i o s ho hs
 have hrd: ∀l,l∈rdL all o s→At l st (S i):=fun l hl=>hS.reads h hD ho hs hi hp (.inl hl)
 have hwr: ∀l,Ga (wrL o s) l→At l st (S i):=fun l hl=>hS.reads h hD ho hs hi hp (.inr hl)
 have hslot: ∀x,x∈Mj o→(S i).get x=st.get x:=fun x hx=>(A3l (hrd (0,x) (by unfold rdL;simp[hx]))).symm
 refine⟨?_,fun hon=>?_,?_⟩
 ·have ha:=hst.ans
  unfold Ans at ha ⊢
  cases hg:o.guard with
  |none=>rw[hg]at ha;exact ha
  |some jw=>
   rw[hg]at ha
   obtain⟨oj,d,a1,a2,a3⟩:=ha
   refine⟨oj,d,a1,a2,?_⟩
   have e:st.get d=(S i).get d:=A3l (hrd (0,d) (by unfold rdL Bcm;rw[hg];simp only[a1,a2];simp))
   rw[e]
   exact a3
 ·obtain⟨c1,c2⟩:=hst.run hon
  refine c1.congr hslot (fun b hb=>?_)
  rw[←c2]at hb
  exact((hrd (1,b) (by unfold rdL;simp[hb])):st.bx b=(S i).bx b).symm
 ·obtain⟨st1,ha,he⟩:=hst.app
  obtain⟨t1,ha',q1,q2⟩:=Amt ha (h.wfAt i (by omega)) hw (fun l hl=>(hwr l (Aqt hl)).symm)
  refine⟨t1,ha',Ams ha' hw,fun l=>?_⟩
  by_cases hlw:Ga (wrL o s) l
  ·refine⟨i+1,?_,by omega,.inr ⟨i,o,s,rfl,.inr rfl,ho,hs,hlw⟩,fun j o' s' hj ho' hs' hw'=>?_⟩
   ·refine At.trans ?_ (he l)
    by_cases hd: ∃d,o.dst=some d∧l=(0,d)
    ·obtain⟨d,hd,rfl⟩:=hd
     rw[hd];exact Aqs
    ·have hle:Ga (Cf o.dst s.ef) l:=by
      rcases hlw with hlw|hlw
      ·rcases List.mem_append.1 hlw with q|q
       ·simp only[List.mem_map,Option.mem_toList]at q
        obtain⟨d,hd',rfl⟩:=q
        exact(hd ⟨d,hd',rfl⟩).elim
       ·exact .inl q
      ·rcases List.mem_append.1 hlw with q|q
       ·simp at q
       ·exact .inr q
     exact Auz (fun d hd' e=>hd ⟨d,hd',e⟩) (q1 l hle).symm
   ·rcases hj with hj|hj
    ·rcases Nat.lt_or_ge j i with q|q
     ·omega
     ·exfalso
      rcases Nat.eq_or_lt_of_le q with e|hlt
      ·exact hi (e▸hj)
      ·rcases h.ord hD hlt ho hs ho' hs' (hD j hj)with r|r
       ·exact hi r
       ·exact(r.1 l hlw).1 hw'
    ·omega
  ·obtain⟨m,h1,h2,h3,h4⟩:=hS l
   have hle: ¬Ga (Cf o.dst s.ef) l:=fun hm=>hlw (Aqt hm)
   have hld: ∀d,o.dst=some d→l≠(0,d):=fun d hd e=>hlw (.inl (List.mem_append.2 (.inl (by rw[hd];simp[e]))))
   refine⟨m,((Atd hld).trans (q2 l hle).1).trans h1,h2,?_,fun j o' s' hj ho' hs' hw'=>?_⟩
   ·rcases h3 with h3|⟨j,o',s',e1,e2,e3⟩
    ·exact .inl h3
    ·exact .inr ⟨j,o',s',e1,.inl e2,e3⟩
   ·rcases hj with hj|hj
    ·exact h4 j o' s' hj ho' hs' hw'
    ·subst hj
     rw[ho]at ho';rw[hs]at hs'
     cases ho';cases hs'
     exact(hlw hw').elim
end
end Go.Proofs.YtmhhajdeafijmaaGreat
namespace Go.Proofs.YtmhhajdeafijmaaGreat
open Go.RowKit
set_option linter.unusedVariables false
set_option linter.unusedSectionVars false
set_option linter.unusedSimpArgs false

theorem Ani (g:Gh) (st:St) (i:Nat) (x:PV):Ext g st g (st.set i x):=⟨fun _ _ _ h=>h,fun _ _=>rfl,fun _ h=>h,fun _ h=>h,fun t h _=>⟨h,rfl,rfl,rfl,fun _ _ _=>rfl⟩⟩
theorem Xu {np nt:Nat} {cx:Cx} {g:Gh} {st:St} {a:Act} (hp:cx.pin.length≤np) (h:Env nt cx g st a) {d:Option Nat} (hd: ∀i,d=some i→np≤i∧i<nt) {x:PV} {v:Value} (hx:VR cx g st x v):Env nt cx g (st.put d x) (a.put d v):=by
 cases d with
 |none=>exact h
 |some i=>
  obtain⟨h1,h2,h3,h4⟩:=h
  have hi:=(hd i rfl).2
  have hip:=(hd i rfl).1
  have hoth: ∀j,j≠i→((a.put (some i) v).tmps).getD j undef=a.tmps.getD j undef:=fun j hj=>by
   simp only[Act.put,Array.getD_eq_getD_getElem?]
   rw[Array.getElem?_setIfInBounds_ne (Ne.symm hj)]
  refine⟨by simp[Act.put,h1],h2,fun j=>?_,fun j u hu=>?_⟩
  ·show VR cx g (st.set i x) ((st.set i x).get j) _
   rw[Xs]
   by_cases hj:j=i
   ·subst hj
    rw[if_pos rfl]
    have:((a.put (some j) v).tmps).getD j undef=v:=by simp[Act.put,Array.getD,h1,hi]
    rw[this]
    exact hx.ext (Ani g st j x)
   ·rw[if_neg hj,hoth j hj]
    exact(h3 j).ext (Ani g st i x)
  ·have hjl:j<cx.pin.length:=(List.getElem?_eq_some_iff.1 hu).1
   rw[hoth j (by omega)];exact h4 j u hu
theorem Amu {cx:Cx} {w:World} {g:Gh} {st:St} (h:RM cx g st w) (d:Option Nat) (x:PV):RM cx g (st.put d x) w:=by
 cases d with
 |none=>exact h
 |some i=>
  exact⟨h.moved,h.lies,h.g0,h.old,fun k cs hk=>let ⟨vs,e,h1,h2,h3⟩:=h.box k cs hk;⟨vs,e,h1,h2,h3.ext (Ani g st i x)⟩,h.inj,h.boxG,h.tok,h.apart,h.tokBox,h.nodup,h.new⟩
theorem Bcw {nt:Nat} {cx:Cx} {g:Gh} {st:St} {a:Act} (h:Env nt cx g st a) {d:Nat} {b:Bool} {t:Tok} (hg:st.get d= .v false [⟨.bool,b,t⟩]):a.tmps[d]? =some (.bool b):=by
 have h3:=h.2.2.1 d
 rw[hg]at h3
 have e:a.tmps.getD d undef= .bool b:=h3.1.1
 simp only[Array.getD_eq_getD_getElem?]at e
 cases hq:a.tmps[d]? with
 |none=>rw[hq]at e;simp[undef]at e
 |some v=>rw[hq]at e;simp at e;rw[e]
theorem Aqu {cx:Cx} {g:Gh} {st:St}:VR cx g st (.tup []) undef:=⟨[],rfl,trivial⟩
theorem Ate {nt:Nat} {cx:Cx} {g:Gh} {st:St} {a:Act} (h:Env nt cx g st a) {d:Nat} (hg:st.get d= .tup []) {ops:Array Oper} {j:Nat} {oj:Oper} (hoj:ops[j]? =some oj) (hdj:oj.dst=some d):yielded ops a.tmps j=none:=by
 have h3:=h.2.2.1 d
 rw[hg]at h3
 obtain⟨vs,h4,h5⟩:=h3
 have e:vs=[]:=by cases vs with|nil=>rfl|cons _ _=>exact h5.elim
 subst e
 simp only[Array.getD_eq_getD_getElem?]at h4
 unfold yielded
 rw[hoj]
 simp only[Option.bind_some,hdj]
 cases hq:a.tmps[d]? with
 |none=>rfl
 |some v=>rw[hq]at h4;simp at h4;rw[h4]
def done (listed:Array Bool) (j:Nat):Prop:=listed.getD j false=true
def unl (n:Nat) (listed:Array Bool):List Nat:=(List.range n).filter fun i=> !listed.getD i true
section
variable {P:Program} {g:Cfg} (hC:CfgOk P g) {cx:Cx} {np nt:Nat} (hpin:cx.pin.length≤np) {ops:Array Oper} {tr:List Stp} {S:Nat→St} {Q:Exit→Act→World→Prop}
include hC hpin
theorem A9z (hI:InOrder g np nt ops.toList tr S) (hk: ∀gh a w,RM cx gh (S ops.toList.length) w→Env nt cx gh (S ops.toList.length) a→Q .normal a w):
  ∀(fuel:Nat) (listed:Array Bool) {st:St} {gh:Gh} {a:Act} {w:World},listed.size=ops.size→(unl ops.size listed).length≤fuel→Afs ops.toList (done listed)→Nj ops.toList tr S (done listed) st→Wf st→RM cx gh st w→Env nt cx gh st a→
   wpAny P .any ops Q fuel listed a w:=by
 have hn:ops.toList.length=ops.size:=by simp
 have fin: ∀(listed:Array Bool) {st:St} {gh:Gh} {a:Act} {w:World},(∀j,j<ops.size→done listed j)→Nj ops.toList tr S (done listed) st→RM cx gh st w→Env nt cx gh st a→Q .normal a w:=fun listed {st gh a w} hall hS hM hE=>by
  have he:=hS.all hI (fun j hj=>hall j (by omega))
  exact hk gh a w (hM.eqv he (hI.wfAt _ (Nat.le_refl _)).1) (hE.eqv he)
 have hmin: ∀(listed:Array Bool),listed.size=ops.size→Region.ready .any ops listed=[]→ ∀j,j<ops.size→done listed j:=fun listed hsz hr j=>by
  induction j using Nat.strongRecOn with
  |_ j ih=>
   intro hj
   by_cases hd:done listed j
   ·exact hd
   ·exfalso
    have hmem:j∈Region.ready .any ops listed:=by
     unfold Region.ready
     refine List.mem_filter.2 ⟨List.mem_range.2 hj,?_⟩
     have h1:listed.getD j true=false:=by
      unfold done at hd
      simp only[Array.getD_eq_getD_getElem?]at hd ⊢
      rw[Array.getElem?_eq_getElem (by omega)]at hd ⊢
      simpa using hd
     have ho:ops[j]? =some ops[j]:=Array.getElem?_eq_getElem hj
     have hol:ops.toList[j]? =some ops[j]:=by simp[hj]
     have hts:tr[j]? =some (tr[j]'(by rw[hI.len];omega)):=List.getElem?_eq_getElem _
     rw[ho]
     simp only[h1,Option.map_some,Option.getD_some,Bool.not_false,Bool.true_and]
     rw[Array.all_eq_true_iff_forall_mem]
     intro e he
     cases hb:Region.binds .any e with
     |false=>rfl
     |true=>
      have:=(Ai3 (k:=0) hI.ind j _ _ hol hts).1 e (by simpa using he) hb
      have hd:=ih e.on (by omega) (by omega)
      unfold done at hd
      simpa using hd
    rw[hr]at hmem;cases hmem
 intro fuel
 induction fuel with
 |zero=>
  intro listed st gh a w hsz hun hD hS hw hM hE
  have hun0:unl ops.size listed=[]:=List.eq_nil_of_length_eq_zero (by omega)
  have hall: ∀j,j<ops.size→done listed j:=fun j hj=>by
   by_cases hd:done listed j
   ·exact hd
   ·exfalso
    have:j∈unl ops.size listed:=List.mem_filter.2 ⟨List.mem_range.2 hj,by
     unfold done at hd
     simp only[Array.getD_eq_getD_getElem?]at hd ⊢
     rw[Array.getElem?_eq_getElem (by omega)]at hd ⊢
     simpa using hd⟩
    rw[hun0]at this;cases this
  refine⟨?_,fin listed hall hS hM hE⟩
  cases hr:Region.ready .any ops listed with
  |nil=>rfl
  |cons x xs=>
   exfalso
   have hx:x∈Region.ready .any ops listed:=by rw[hr];simp
   unfold Region.ready at hx
   have h1:=List.mem_filter.1 hx
   have:x∈unl ops.size listed:=List.mem_filter.2 ⟨h1.1,by have:=h1.2;simp only[Bool.and_eq_true]at this;exact this.1⟩
   rw[hun0]at this;cases this
 |succ fuel ih=>
  intro listed st gh a w hsz hun hD hS hw hM hE
  refine⟨fun hr=>fin listed (hmin listed hsz hr) hS hM hE,fun i hi=>?_⟩
  have h1:=List.mem_filter.1 (show i∈(List.range ops.size).filter _ from hi)
  have hil:i<ops.size:=List.mem_range.1 h1.1
  have h2:=h1.2
  simp only[Bool.and_eq_true]at h2
  have ho:ops[i]? =some ops[i]:=Array.getElem?_eq_getElem hil
  have hol:ops.toList[i]? =some ops[i]:=by simp[hil]
  have hts:tr[i]? =some (tr[i]'(by rw[hI.len];omega)):=List.getElem?_eq_getElem _
  generalize hs:tr[i]'(by rw[hI.len];omega)=s at hts
  generalize hoo:ops[i]=o at ho hol
  have hnd: ¬done listed i:=by
   unfold done
   have:=h2.1
   simp only[Array.getD_eq_getD_getElem?]at this ⊢
   rw[Array.getElem?_eq_getElem (by omega)]at this ⊢
   simpa using this
  have hp:Ai2 ops.toList (done listed) i:=fun o' ho' e he hb=>by
   rw[hol]at ho';cases ho'
   have h3:=h2.2
   rw[ho]at h3
   simp only[Option.map_some,Option.getD_some]at h3
   rw[Array.all_eq_true_iff_forall_mem]at h3
   have:=h3 e (by simpa using he)
   rw[hb]at this
   unfold done
   simpa using this
  obtain⟨hans,hrun,t1,ha,hwt,hS'⟩:=hS.next hI hD hw hol hts hnd hp
  have hdone: ∀j,done (listed.setIfInBounds i true) j↔(done listed j∨j=i):=fun j=>by
   unfold done
   simp only[Array.getD_eq_getD_getElem?]
   by_cases hj:j=i
   ·subst hj
    rw[Array.getElem?_setIfInBounds_self_of_lt (by omega)]
    simp
   ·rw[Array.getElem?_setIfInBounds_ne (Ne.symm hj)]
    simp[hj]
  have hD':Afs ops.toList (done (listed.setIfInBounds i true)):=fun j hj o' ho' e he hb=>by
   rw[hdone]at hj ⊢
   rcases hj with hj|hj
   ·exact .inl (hD j hj o' ho' e he hb)
   ·subst hj;exact .inl (hp o' ho' e he hb)
  have hS2:Nj ops.toList tr S (done (listed.setIfInBounds i true)) (t1.put o.dst s.pv):=by
   have:done (listed.setIfInBounds i true)=fun j=>done listed j∨j=i:=funext fun j=>propext (hdone j)
   rw[this];exact hS'
  have hun':(unl ops.size (listed.setIfInBounds i true)).length≤fuel:=by
   have hlt:=Awn (p:=fun j=> !listed.getD j true) (q:=fun j=> !(listed.setIfInBounds i true).getD j true) (l:=List.range ops.size) (fun x hx hq=>by
    simp only[Array.getD_eq_getD_getElem?]at hq ⊢
    by_cases hxi:x=i
    ·subst hxi
     rw[Array.getElem?_setIfInBounds_self_of_lt (by omega)]at hq
     simp at hq
    ·rw[Array.getElem?_setIfInBounds_ne (Ne.symm hxi)]at hq;exact hq) i h1.1 h2.1 (by
    simp only[Array.getD_eq_getD_getElem?]
    rw[Array.getElem?_setIfInBounds_self_of_lt (by omega)];rfl)
   unfold unl at hun ⊢
   omega
  have hst:=hI.step i o s hol hts
  have hwant:Region.wanted o (yielded ops a.tmps)=s.on:=by
   unfold Ans at hans
   unfold Region.wanted
   cases hg:o.guard with
   |none=>rw[hg]at hans;exact hans.symm
   |some jw=>
    obtain⟨j,want⟩:=jw
    rw[hg]at hans
    obtain⟨oj,d,a1,a2,hans⟩:=hans
    rcases hans with⟨c,a3,a4⟩|⟨a3,a4⟩
    ·have hy:yielded ops a.tmps j=some c:=by
      unfold yielded
      have:ops[j]? =some oj:=by simpa using a1
      rw[this]
      simp[a2,Bcw hE a3]
     simp only[hy,a4]
     cases c<;>cases want<;>rfl
    ·have hy:yielded ops a.tmps j=none:=Ate hE a3 (by simpa using a1) a2
     simp only[hy,a4]
     cases want<;>rfl
  unfold wpOp
  rw[ho]
  simp only[hwant]
  cases hon:s.on with
  |true=>
   simp only[if_true]
   left
   refine Aqr hC hM hE (k:=fun p e=>some (p,e)) (r:=(s.pv,s.ef)) (fun pv ef hr=>?_) (fun gh' pv ef st' v w' hr hap m e hv=>?_) (hrun hon)
   ·simp at hr;obtain⟨rfl,rfl⟩:=hr;exact⟨t1,ha⟩
   ·simp at hr
    obtain⟨rfl,rfl⟩:=hr
    rw[ha]at hap;cases hap
    exact ih _ (by simp[hsz]) hun' hD' hS2 (Ni hwt _ _) (Amu m _ _) (Xu hpin e hst.hd hv)
  |false=>
   simp only[Bool.false_eq_true,if_false]
   obtain⟨o1,o2,o3⟩:=hst.off hon
   rw[o2]at ha
   simp[Ef.app]at ha
   subst ha
   rw[o1]at hS2
   exact ih _ (by simp[hsz]) hun' hD' hS2 (Ni hwt _ _) (Amu hM _ _) (Xu hpin hE hst.hd (x:=.tup []) (v:=undef) Aqu)
theorem Bbb {id:Nat} {st:St} {gh:Gh} {a:Act} {w:World} {ρ:Type} {r:ρ} {k:St→Option ρ} (hM:RM cx gh st w) (hE:Env nt cx gh st a) (hk: ∀gh st a w,RM cx gh st w→Env nt cx gh st a→k st=some r→Q .normal a w)
  (h:Ab6 g ops.toList np nt ops.toList st [] (fun tr st'=>chk (A5e ops.toList tr) (k st'))=some r):(Code.region id ops true).wp P Q a w:=by
 have hwf:Wf st:=⟨hM.nodup,fun t ht=>(hM.tok t ht).1⟩
 obtain⟨tr,stn,hrun,hkk,hwn⟩:=Tk hwf h
 obtain⟨hind,hkk⟩:=A2 hkk
 simp only[List.reverse_nil,List.nil_append]at hind
 obtain⟨hlen,S,S0,Sn,hstep⟩:=hrun.seq
 have hI:InOrder g np nt ops.toList tr S:=⟨hlen,hstep,by rw[S0];exact hwf,hind⟩
 refine wp_region_any hC.mix ?_
 have hG:Cc w {w with drawn:=w.drawn+1}:=(Cc.refl w).drew
 refine A9z hC hpin hI (fun gh a w m e=>hk gh _ a w m e (by rw[Sn];exact hkk)) ops.size _ (st:=st) (by simp) ?_ ?_ ?_ hwf (hM.world hG) hE
 ·unfold unl
  exact Nat.le_trans (List.length_filter_le _ _) (by simp)
 ·intro j hj
  unfold done at hj
  simp only[Array.getD_eq_getD_getElem?,Array.getElem?_replicate]at hj
  split at hj<;>simp at hj
 ·intro l
  refine⟨0,by rw[S0];exact At.refl _ _,by omega,.inl rfl,fun j o s hj=>?_⟩
  unfold done at hj
  simp only[Array.getD_eq_getD_getElem?,Array.getElem?_replicate]at hj
  split at hj<;>simp at hj
end
end Go.Proofs.YtmhhajdeafijmaaGreat
namespace Go.Proofs.YtmhhajdeafijmaaGreat
open Go.RowKit
set_option linter.unusedVariables false
set_option linter.unusedSectionVars false
set_option linter.unusedSimpArgs false

theorem Au0 {nt:Nat} {cx:Cx} {g:Gh} {st:St} {a:Act} (h:Env nt cx g st a) {d:Nat} {b:Bool} {t:Tok} (hg:st.get d= .v false [⟨.bool,b,t⟩]):a.tmps[d]? =some (.bool b)∧a.tmps.getD d undef= .bool b:=by
 have h3:=h.2.2.1 d
 rw[hg]at h3
 have e:a.tmps.getD d undef= .bool b:=h3.1.1
 refine⟨?_,e⟩
 simp only[Array.getD_eq_getD_getElem?]at e
 cases hq:a.tmps[d]? with
 |none=>rw[hq]at e;simp[undef]at e
 |some v=>rw[hq]at e;simp at e;rw[e]
theorem Env.known {nt:Nat} {cx:Cx} {g:Gh} {st:St} {a:Act} (h:Env nt cx g st a) {d:Nat} {b:Bool} {t:Tok} (hg:st.get d= .v false [⟨.bool,b,t⟩]):Env nt cx g (st.set d (.v false [⟨.bool,b,.nil⟩])) a:=by
 refine⟨h.1,h.2.1,fun j=>?_,h.2.2.2⟩
 rw[Xs]
 by_cases hj:j=d
 ·subst hj
  rw[if_pos rfl,(Au0 h hg).2]
  exact(J1 b).cr
 ·rw[if_neg hj];exact(h.2.2.1 j).ext (Ani g st d _)
section
variable {P:Program} {g:Cfg} (hC:CfgOk P g) {cx:Cx} {np nt:Nat} (hpin:cx.pin.length≤np) {ρ:Type} {r:ρ}
include hC hpin
theorem Aft {ops:Array Oper} {Q:Exit→Act→World→Prop} {k:St→Option ρ} (hk: ∀gh st a w,RM cx gh st w→Env nt cx gh st a→k st=some r→Q .normal a w):
  ∀ {l:List Oper} {gh:Gh} {st:St} {a:Act} {w:World},RM cx gh st w→Env nt cx gh st a→Aqk g ops.toList np nt l st k=some r→wpList P ops Q l a w
 |[],gh,st,a,w,hM,hE,h=>hk gh st a w hM hE h
 |o::l,gh,st,a,w,hM,hE,h=>by
  simp only[Aqk]at h
  obtain⟨hb,h⟩:=A2 h
  have hd: ∀i,o.dst=some i→np≤i∧i<nt:=fun i hi=>by
   rw[hi]at hb
   simp only[Bool.and_eq_true]at hb
   have hb':Nat.ble (i+1) nt=true:=hb.2
   exact⟨Nat.le_of_ble_eq_true hb.1,Nat.le_of_ble_eq_true hb'⟩
  simp only[wpList]
  cases hg:o.guard with
  |none=>
   rw[hg]at h
   have hw:Region.wanted o (yielded ops a.tmps)=true:=by simp[Region.wanted,hg]
   rw[if_pos hw]
   refine .inl (Aqr hC hM hE (fun pv ef hr=>let ⟨st',h1,_⟩:=Ah hr;⟨st',h1⟩) (fun gh' pv ef st' v w' hr ha m e hv=>?_) h)
   obtain⟨st2,h1,hr⟩:=Ah hr
   rw[ha]at h1;cases h1
   exact Aft hk (Amu m _ _) (Xu hpin e hd hv) hr
  |some jw=>
   obtain⟨j,want⟩:=jw
   rw[hg]at h
   simp only at h
   obtain⟨oj,hoj,h⟩:=Ah h
   obtain⟨d,hdj,h⟩:=Ah h
   cases hun:Auq (st.get d)with
   |true=>
    rw[hun]at h
    have hy:yielded ops a.tmps j=none:=Ate hE (A3b hun) (by simpa using hoj) hdj
    have hw:Region.wanted o (yielded ops a.tmps)=false:=by simp[Region.wanted,hg,hy]
    rw[if_neg (by simp[hw])]
    exact Aft hk (Amu hM _ _) (Xu hpin hE hd (x:=.tup []) (v:=undef) Aqu) h
   |false=>
   rw[hun]at h
   simp only[cond_false]at h
   split at h
   ·rename_i b hgd
    have h:=Ane h
    have hy:yielded ops a.tmps j=some b:=by
     unfold yielded
     have:ops[j]? =some oj:=by simpa using hoj
     rw[this]
     simp[hdj,(Au0 hE hgd).1]
    have M1:RM cx gh (st.set d (.v false [⟨.bool,b,.nil⟩])) w:=Amu hM (some d) _
    have E1:=hE.known hgd
    split at h
    ·rename_i hbw
     have hw:Region.wanted o (yielded ops a.tmps)=true:=by simp[Region.wanted,hg,hy,hbw]
     rw[if_pos hw]
     refine .inl (Aqr hC M1 E1 (fun pv ef hr=>let ⟨st',h1,_⟩:=Ah hr;⟨st',h1⟩) (fun gh' pv ef st' v w' hr ha m e hv=>?_) h)
     obtain⟨st2,h1,hr⟩:=Ah hr
     rw[ha]at h1;cases h1
     exact Aft hk (Amu m _ _) (Xu hpin e hd hv) hr
    ·rename_i hbw
     have hw:Region.wanted o (yielded ops a.tmps)=false:=by simp[Region.wanted,hg,hy,hbw]
     rw[if_neg (by simp[hw])]
     exact Aft hk (Amu M1 _ _) (Xu hpin E1 hd (x:=.tup []) (v:=undef) Aqu) h
   ·cases h
def Fs (P:Program) (cx:Cx) (nt:Nat) (Λ:H2) (body:Code):Prop:=
 ∀st e st' gh a w,(Λ (Kz body) st).val=some (e,st')→RM cx gh st w→Env nt cx gh st a→
  (Code.loop body).wp P (fun ex a' w'=>∃gh',RM cx gh' st' w'∧Env nt cx gh' st' a'∧ex=e.out) a w
def Bu:Code→List Code
 | .seq a b=>Bu a++Bu b
 | .cond _ a b=>Bu a++Bu b
 | .block _ a=>Bu a
 | .loop a=>[a]
 |_=>[]
theorem Aa6 {Λ:H2}: ∀ {c:Code} {k:Ex→St→Option ρ} {gh:Gh} {st:St} {a:Act} {w:World} {Q:Exit→Act→World→Prop},RM cx gh st w→Env nt cx gh st a→pex g np nt Λ c st k=some r→(∀b,b∈Bu c→Fs P cx nt Λ b)→
  (∀e gh' st' a' w',RM cx gh' st' w'→Env nt cx gh' st' a'→k e st'=some r→Q e.out a' w')→c.wp P Q a w:=by
 intro c
 induction c with
 |skip=>intro k gh st a w Q hM hE h hL hk;exact wp_skip (hk .normal gh st a w hM hE h)
 |region id ops draw=>
  intro k gh st a w Q hM hE h hL hk
  cases draw with
  |true=>
   simp only[pex]at h
   exact Bbb hC hpin hM hE (fun gh st a w m e hr=>hk .normal gh st a w m e hr) h
  |false=>
   simp only[pex]at h
   refine wp_region ?_
   have he:=wpOps_eq_wpList (P:=P) (ops:=ops) (Q:=Q) ops.toList 0 (fun j=>by simp)
   rw[List.range_eq_range']
   simp only[Array.length_toList]at he
   rw[he]
   exact Aft hC hpin (fun gh st a w m e hr=>hk .normal gh st a w m e hr) hM hE h
 |seq x y ihx ihy=>
  intro k gh st a w Q hM hE h hL hk
  simp only[pex]at h
  refine wp_seq (ihx hM hE h (fun b hb=>hL b (by simp[Bu,hb])) (fun e gh' st' a' w' m en hr=>?_))
  cases e with
  |normal=>exact ihy m en hr (fun b hb=>hL b (by simp[Bu,hb])) hk
  |exit i=>exact hk (.exit i) gh' st' a' w' m en hr
  |ret=>exact hk .ret gh' st' a' w' m en hr
 |cond c x y ihx ihy=>
  intro k gh st a w Q hM hE h hL hk
  simp only[pex]at h
  split at h
  ·rename_i d
   split at h
   ·rename_i t hgd
    have h:=Ane h
    have M1:RM cx gh (st.set d (.v false [⟨.bool,t,.nil⟩])) w:=Amu hM (some d) _
    have E1:=hE.known hgd
    refine wp_cond (t:=t) (Au0 hE hgd).2 ?_
    cases t with
    |true=>exact ihx M1 E1 h (fun b hb=>hL b (by simp[Bu,hb])) hk
    |false=>exact ihy M1 E1 h (fun b hb=>hL b (by simp[Bu,hb])) hk
   ·cases h
  ·cases h
 |block id x ih=>
  intro k gh st a w Q hM hE h hL hk
  simp only[pex]at h
  refine wp_block (ih hM hE h hL (fun e gh' st' a' w' m en hr=>?_))
  cases e with
  |normal=>exact hk .normal gh' st' a' w' m en hr
  |ret=>exact hk .ret gh' st' a' w' m en hr
  |exit j=>
   simp only at hr
   split at hr
   ·rename_i hj;subst hj
    simp only[Ex.out,Exit.inBlock,if_true]
    exact hk .normal gh' st' a' w' m en hr
   ·rename_i hj
    simp only[Ex.out,Exit.inBlock,hj,if_false]
    exact hk (.exit j) gh' st' a' w' m en hr
 |loop x ih=>
  intro k gh st a w Q hM hE h hL hk
  simp only[pex]at h
  obtain⟨⟨e,st'⟩,hΛ,h⟩:=Tree.run_some h
  refine wp_mono (hL x (by simp[Bu]) st e st' gh a w hΛ hM hE) (fun ex a' w' hq=>?_)
  obtain⟨gh',m,en,rfl⟩:=hq
  exact hk e gh' st' a' w' m en h
 |exit i=>intro k gh st a w Q hM hE h hL hk;exact wp_exit (hk (.exit i) gh st a w hM hE h)
 |ret=>intro k gh st a w Q hM hE h hL hk;exact wp_ret (hk .ret gh st a w hM hE h)
 |scope x ih=>intro k gh st a w Q hM hE h;simp[pex]at h
 |label l=>intro k gh st a w Q hM hE h;simp[pex]at h
 |goto l=>intro k gh st a w Q hM hE h;simp[pex]at h
 |refuse s=>intro k gh st a w Q hM hE h;simp[pex]at h
 |rangeFunc f p x y ihx ihy=>intro k gh st a w Q hM hE h;simp[pex]at h
end
end Go.Proofs.YtmhhajdeafijmaaGreat

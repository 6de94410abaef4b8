/-
  An evaluator of functions by symbols, part 2, and that what it answers is what a call returns; nothing is assumed.
-/
import Derived.Test.YthccfdmiejmbaaaGreatEv0
namespace Go.Proofs.YthccfdmiejmbaaaGreat
open Go.RowKit
set_option linter.unusedVariables false
set_option linter.unusedSimpArgs false
set_option linter.unusedSectionVars false
section

theorem Bqk (a b:ByteArray):(a.toList==b.toList)=decide (a=b):=by
 by_cases h:a=b
 .subst h;simp
 .have:a.toList≠b.toList:=fun e=>h (by
   rw[Go.ByteArray.toList_eq,Go.ByteArray.toList_eq]at e
   cases a;cases b
   congr
   exact Array.toList_inj.1 e)
  simp[h,this]
theorem Amk {P:Program} {w:World} {t:TypeId} {d:TypeDesc} (h:P.underlying t=some d) (hd:d.isRow=false) {xs:Array Value} {off:Nat} {v:Value} (hv:xs[off]? =some v):(part t xs off).run P w= .ok v w:=by
 unfold part
 rw[Sem.run_bind,Afb h,hd]
 simp[hv]
theorem Aml {P:Program} {w:World} {cx:Cx} {g:Gh} {st:St} (d:Nat) {XS YS:Array Value}: ∀ {fs:List Field} {ss:List Sh} {off:Nat} {xs ys:List Cl} {vs us:List Value} {b:Bool},Bb9 P fs ss off->xs.map Cl.sh=ss->CRs cx g st xs vs->CRs cx g st ys us->
  (∀j v,vs[j]? =some v->XS[off+j]? =some v)->(∀j v,us[j]? =some v->YS[off+j]? =some v)->C5 xs ys=some b->(Op.eqFields (d+1) XS YS fs).run P w= .ok b w
 |fs,ss,off,[],[],vs,us,b,he,hs,hx,hy,h1,h2,h=>by
  simp[C5]at h;subst h
  simp at hs;subst hs
  cases fs with
  |nil=>simp[Op.eqFields]
  |cons f fs=>exact he.elim
 |fs,ss,off,⟨.int k,x,tk⟩::xs,⟨.int j,y,tj⟩::ys,v::vs,u::us,b,he,hs,hx,hy,h1,h2,h=>by
  simp only[C5]at h
  split at h
  .rename_i hkj;subst hkj
   obtain⟨b',hb',h⟩:=Ah h
   simp at h;subst h
   simp at hs;subst hs
   cases fs with
   |nil=>exact he.elim
   |cons f fs=>
    obtain⟨hn,ho,⟨k',hu⟩,he'⟩:=he
    have ev:v= .int k x:=hx.1.1.1
    have eu:u= .int k y:=hy.1.1.1
    have p1:=Amk (P:=P) (w:=w) hu rfl (xs:=XS) (off:=f.offset) (v:=v) (by rw[ho];simpa using h1 0 v rfl)
    have p2:=Amk (P:=P) (w:=w) hu rfl (xs:=YS) (off:=f.offset) (v:=u) (by rw[ho];simpa using h2 0 u rfl)
    subst ev eu
    have ih:=Aml (w:=w) d he' rfl hx.2 hy.2 (fun j v hv=>by have:=h1 (j+1) v (by simpa using hv);rw[show off+1+j=off+(j+1) by omega];exact this)
     (fun j v hv=>by have:=h2 (j+1) v (by simpa using hv);rw[show off+1+j=off+(j+1) by omega];exact this) hb'
    have e1:=run_equalIn_int (P:=P) w d f.type k k' x y hu
    simp only[Op.eqFields,hn,ne_eq,not_false_eq_true,if_true,Sem.run_bind,p1,p2,Result.andThen_ok,e1]
    cases hxy:((x:Int)==y)with
    |true=>simpa [hxy] using ih
    |false=>simp[hxy]
  .cases h
 |fs,ss,off,⟨.bool,x,tk⟩::xs,⟨.bool,y,tj⟩::ys,v::vs,u::us,b,he,hs,hx,hy,h1,h2,h=>by
  simp only[C5]at h
  obtain⟨b',hb',h⟩:=Ah h
  simp at h;subst h
  simp at hs;subst hs
  cases fs with
  |nil=>exact he.elim
  |cons f fs=>
   obtain⟨hn,ho,hu,he'⟩:=he
   have ev:v= .bool x:=hx.1.1
   have eu:u= .bool y:=hy.1.1
   have p1:=Amk (P:=P) (w:=w) hu rfl (xs:=XS) (off:=f.offset) (v:=v) (by rw[ho];simpa using h1 0 v rfl)
   have p2:=Amk (P:=P) (w:=w) hu rfl (xs:=YS) (off:=f.offset) (v:=u) (by rw[ho];simpa using h2 0 u rfl)
   subst ev eu
   have ih:=Aml (w:=w) d he' rfl hx.2 hy.2 (fun j v hv=>by have:=h1 (j+1) v (by simpa using hv);rw[show off+1+j=off+(j+1) by omega];exact this)
    (fun j v hv=>by have:=h2 (j+1) v (by simpa using hv);rw[show off+1+j=off+(j+1) by omega];exact this) hb'
   have e1:=run_equalIn_bool (P:=P) w d f.type x y hu
   simp only[Op.eqFields,hn,ne_eq,not_false_eq_true,if_true,Sem.run_bind,p1,p2,Result.andThen_ok,e1]
   cases hxy:((x:Bool)==y)with
   |true=>simpa [hxy] using ih
   |false=>simp[hxy]
 |_,_,_,[],_::_,_,_,_,_,_,_,_,_,_,h=>by simp[C5]at h
 |_,_,_,_::_,[],_,_,_,_,_,_,_,_,_,h=>by simp[C5]at h
 |_,_,_,_::_,_,[],_,_,_,_,hx,_,_,_,_=>hx.elim
 |_,_,_,_,_::_,_,[],_,_,_,_,hy,_,_,_=>hy.elim
 |_,_,_,⟨.int _,_,_⟩::_,⟨.bool,_,_⟩::_,_,_,_,_,_,_,_,_,_,h=>by simp[C5]at h
 |_,_,_,⟨.int _,_,_⟩::_,⟨.str,_,_⟩::_,_,_,_,_,_,_,_,_,_,h=>by simp[C5]at h
 |_,_,_,⟨.int _,_,_⟩::_,⟨.sl _ _,_,_⟩::_,_,_,_,_,_,_,_,_,_,h=>by simp[C5]at h
 |_,_,_,⟨.bool,_,_⟩::_,⟨.int _,_,_⟩::_,_,_,_,_,_,_,_,_,_,h=>by simp[C5]at h
 |_,_,_,⟨.bool,_,_⟩::_,⟨.str,_,_⟩::_,_,_,_,_,_,_,_,_,_,h=>by simp[C5]at h
 |_,_,_,⟨.bool,_,_⟩::_,⟨.sl _ _,_,_⟩::_,_,_,_,_,_,_,_,_,_,h=>by simp[C5]at h
 |_,_,_,⟨.junk,_,_⟩::_,_::_,_,_,_,_,_,_,_,_,_,h=>by simp[C5]at h
 |_,_,_,⟨.int _,_,_⟩::_,⟨.junk,_,_⟩::_,_,_,_,_,_,_,_,_,_,h=>by simp[C5]at h
 |_,_,_,⟨.bool,_,_⟩::_,⟨.junk,_,_⟩::_,_,_,_,_,_,_,_,_,_,h=>by simp[C5]at h
 |_,_,_,⟨.str,_,_⟩::_,_::_,_,_,_,_,_,_,_,_,_,h=>by simp[C5]at h
 |_,_,_,⟨.sl _ _,_,_⟩::_,_::_,_,_,_,_,_,_,_,_,_,h=>by simp[C5]at h
theorem Bmp {P:Program} {w:World} {d:Nat} {XS YS:Array Value} {f:Field} {fs:List Field} {b1 b2:Bool} (h1:(Op.eqFields d XS YS [f]).run P w= .ok b1 w) (h2:(Op.eqFields d XS YS fs).run P w= .ok b2 w):(Op.eqFields d XS YS (f::fs)).run P w= .ok (and b1 b2) w:=by
 simp only[Op.eqFields]at h1 ⊢
 by_cases hn:f.name≠ "_"
 .rw[if_pos hn]at h1 ⊢
  simp only[Sem.run_bind]at h1 ⊢
  generalize (part f.type XS f.offset).run P w=r1 at h1 ⊢
  cases r1 with
  |halt x w1=>simp[Result.andThen]at h1
  |ok a w1=>
   simp only[Result.andThen_ok]at h1 ⊢
   generalize (part f.type YS f.offset).run P w1=r2 at h1 ⊢
   cases r2 with
   |halt x w1=>simp[Result.andThen]at h1
   |ok a' w2=>
    simp only[Result.andThen_ok]at h1 ⊢
    generalize (Op.equalIn d f.type a a').run P w2=r3 at h1 ⊢
    cases r3 with
    |halt x w1=>simp[Result.andThen]at h1
    |ok r w3=>
     cases r with
     |false=>
      simp only[Result.andThen_ok,Bool.not_false,if_true,Sem.run_pure]at h1 ⊢
      cases h1;rfl
     |true=>
      simp only[Result.andThen_ok,Bool.not_true,Bool.false_eq_true,if_false,Sem.run_pure]at h1 ⊢
      cases h1
      simpa using h2
 .rw[if_neg hn]at h1 ⊢
  simp only[Sem.run_pure]at h1
  cases h1
  simpa using h2
theorem Ab8: ∀ {xs1 xs2 ys:List Cl} {b:Bool},C5 (xs1++xs2) ys=some b-> ∃b1 b2,C5 xs1 (ys.take xs1.length)=some b1/\C5 xs2 (ys.drop xs1.length)=some b2/\b=and b1 b2
 |[],xs2,ys,b,h=>⟨true,b,by simp[C5],by simpa using h,rfl⟩
 |⟨.int k,x,tk⟩::xs1,xs2,⟨.int j,y,tj⟩::ys,b,h=>by
  simp only[List.cons_append,C5]at h
  split at h
  .rename_i hkj
   obtain⟨b',hb',h⟩:=Ah h
   simp at h;subst h
   obtain⟨b1,b2,h1,h2,h3⟩:=Ab8 hb'
   refine⟨and ((x:Int)==y) b1,b2,?_,by simpa using h2,?_⟩
   .simp only[List.length_cons,List.take_succ_cons,C5,if_pos hkj,h1];rfl
   .rw[h3,Bool.and_assoc]
  .cases h
 |⟨.bool,x,tk⟩::xs1,xs2,⟨.bool,y,tj⟩::ys,b,h=>by
  simp only[List.cons_append,C5]at h
  obtain⟨b',hb',h⟩:=Ah h
  simp at h;subst h
  obtain⟨b1,b2,h1,h2,h3⟩:=Ab8 hb'
  refine⟨and ((x:Bool)==y) b1,b2,?_,by simpa using h2,?_⟩
  .simp only[List.length_cons,List.take_succ_cons,C5,h1];rfl
  .rw[h3,Bool.and_assoc]
 |_::_,_,[],_,h=>by simp[C5]at h
 |⟨.int _,_,_⟩::_,_,⟨.bool,_,_⟩::_,_,h=>by simp[C5]at h
 |⟨.int _,_,_⟩::_,_,⟨.str,_,_⟩::_,_,h=>by simp[C5]at h
 |⟨.int _,_,_⟩::_,_,⟨.sl _ _,_,_⟩::_,_,h=>by simp[C5]at h
 |⟨.int _,_,_⟩::_,_,⟨.junk,_,_⟩::_,_,h=>by simp[C5]at h
 |⟨.bool,_,_⟩::_,_,⟨.int _,_,_⟩::_,_,h=>by simp[C5]at h
 |⟨.bool,_,_⟩::_,_,⟨.str,_,_⟩::_,_,h=>by simp[C5]at h
 |⟨.bool,_,_⟩::_,_,⟨.sl _ _,_,_⟩::_,_,h=>by simp[C5]at h
 |⟨.bool,_,_⟩::_,_,⟨.junk,_,_⟩::_,_,h=>by simp[C5]at h
 |⟨.str,_,_⟩::_,_,_::_,_,h=>by simp[C5]at h
 |⟨.sl _ _,_,_⟩::_,_,_::_,_,h=>by simp[C5]at h
 |⟨.junk,_,_⟩::_,_,_::_,_,h=>by simp[C5]at h
theorem Bwl {P:Program} {w:World} {t:TypeId} {fs:Array Field} {i:TypeInfo} (h:P.underlying t=some (.struct fs)) (hi:P.info? t=some i) (xs:Array Value) (off:Nat):(part t xs off).run P w= .ok (.agg (xs.extract off (off+i.size))) w:=by
 unfold part
 rw[Sem.run_bind,Afb h]
 have hs:(sizeOf t).run P w= .ok i.size w:=by simp[sizeOf,typeInfo,hi]
 simp only[Result.andThen_ok,TypeDesc.isRow,if_true,Sem.run_bind,hs,Sem.run_pure]
theorem Aw8 {P:Program} {w:World} {cx:Cx} {g:Gh} {st:St} (d:Nat) {XS YS:Array Value}: ∀ {fs:List Field} {ss:List Sh} {off:Nat} {xs ys:List Cl} {vs us:List Value} {b:Bool},Ar3 P fs ss off->xs.map Cl.sh=ss->CRs cx g st xs vs->CRs cx g st ys us->
  (∀j v,vs[j]? =some v->XS[off+j]? =some v)->(∀j v,us[j]? =some v->YS[off+j]? =some v)->C5 xs ys=some b->(Op.eqFields (d+2) XS YS fs).run P w= .ok b w
 |[],ss,off,xs,ys,vs,us,b,he,hs,hx,hy,h1,h2,h=>by
  have he:ss=[]:=he
  subst he
  have:xs=[]:=by simpa using hs
  subst this
  cases ys with
  |nil=>simp[C5]at h;subst h;simp[Op.eqFields]
  |cons _ _=>simp[C5]at h
 |f::fs,ss,off,xs,ys,vs,us,b,he,hs,hx,hy,h1,h2,h=>by
  obtain⟨hn,ho,he⟩:=he
  rcases he with⟨s,r,rfl,hty,hr⟩|⟨s1,s2,i,rfl,hu,hst,hi,hsz,hf,hr⟩
  .cases xs with
   |nil=>simp at hs
   |cons x xs=>
    simp at hs
    obtain⟨hs1,hs2⟩:=hs
    have hx1:=hx.take 1
    have hx2:=hx.drop 1
    have hy1:=hy.take 1
    have hy2:=hy.drop 1
    obtain⟨b1,b2,k1,k2,k3⟩:=Ab8 (xs1:=[x]) (xs2:=xs) h
    subst k3
    refine Bmp ?_ (Aw8 d hr hs2 hx2 hy2 (fun j v hv=>?_) (fun j v hv=>?_) k2)
    .refine Aml (d+1) (fs:=[f]) (ss:=[s]) ⟨hn,ho,hty,trivial⟩ (by simp[hs1]) hx1 hy1 (fun j v hv=>?_) (fun j v hv=>?_) k1
     .rw[List.getElem?_take]at hv
      split at hv
      .exact h1 j v hv
      .cases hv
     .rw[List.getElem?_take]at hv
      split at hv
      .exact h2 j v hv
      .cases hv
    .rw[List.getElem?_drop]at hv
     have:=h1 _ v hv
     rwa [<-Nat.add_assoc]at this
    .rw[List.getElem?_drop]at hv
     have:=h2 _ v hv
     rwa [<-Nat.add_assoc]at this
  .have hxs:xs=xs.take s1.length++xs.drop s1.length:=(List.take_append_drop _ _).symm
   have hl1:(xs.take s1.length).length=s1.length:=by
    have:=congrArg List.length hs
    simp at this
    simp;omega
   have hm1:(xs.take s1.length).map Cl.sh=s1:=by rw[List.map_take,hs,List.take_left]
   have hm2:(xs.drop s1.length).map Cl.sh=s2:=by rw[List.map_drop,hs,List.drop_left]
   rw[hxs]at h
   obtain⟨b1,b2,k1,k2,k3⟩:=Ab8 h
   rw[hl1]at k1 k2
   subst k3
   refine Bmp ?_ (Aw8 d hr hm2 (hx.drop s1.length) (hy.drop s1.length) (fun j v hv=>?_) (fun j v hv=>?_) k2)
   .have e1:=Aml (P:=P) (w:=w) d (XS:=XS.extract f.offset (f.offset+i.size)) (YS:=YS.extract f.offset (f.offset+i.size)) hf hm1 (hx.take s1.length) (hy.take s1.length) (fun j v hv=>?_) (fun j v hv=>?_) k1
    .simp only[Op.eqFields,hn,ne_eq,not_false_eq_true,if_true,Sem.run_bind,Bwl hu hi,Result.andThen_ok]
     rw[run_equalIn_struct w (d+1) f.type _ _ hu hst,e1]
     cases b1<;>simp
    .rw[List.getElem?_take]at hv
     split at hv
     .rename_i hlt
      have:=h1 j v hv
      rw[Array.getElem?_extract,if_pos (by have:=(Array.getElem?_eq_some_iff.1 this).1;omega)]
      rw[ho];simpa using this
     .cases hv
    .rw[List.getElem?_take]at hv
     split at hv
     .rename_i hlt
      have:=h2 j v hv
      rw[Array.getElem?_extract,if_pos (by have:=(Array.getElem?_eq_some_iff.1 this).1;omega)]
      rw[ho];simpa using this
     .cases hv
   .rw[List.getElem?_drop]at hv
    have:=h1 _ v hv
    rwa [<-Nat.add_assoc]at this
   .rw[List.getElem?_drop]at hv
    have:=h2 _ v hv
    rwa [<-Nat.add_assoc]at this
theorem RM.addRead {cx:Cx} {w:World} {g:Gh} {st:St} (h:RM cx g st w) {U:A9} (hl:Ez U w) (hb: ∀k,st.has k=true-> ∀o,U (g.B k) o=none) (hF: ∀t b o,t∈st.live->(g.F t b).isSome=true->U b o=none) (hm: ∀b o v,U b o=some v->Fu cx b):
  RM cx ⟨Ij g.G U,g.B,g.F,g.V,g.S⟩ st w/\Ext g st ⟨Ij g.G U,g.B,g.F,g.V,g.S⟩ st:=by
 have hE:Ext g st ⟨Ij g.G U,g.B,g.F,g.V,g.S⟩ st:=⟨Vn _ _,fun _ _=>rfl,fun _ h=>h,fun _ h=>h,fun t ht _=>⟨ht,rfl,rfl,rfl,fun b o hs=>by simp[Ij,hF t b o ht hs]⟩⟩
 refine⟨⟨h.moved,?_,fun b o v hv=>Vn _ _ _ _ _ (h.g0 _ _ _ hv),h.old,?_,h.inj,?_,h.tok,h.apart,h.tokBox,h.nodup,?_⟩,hE⟩
 .intro b o v hv
  simp only[Ij]at hv
  cases hg:g.G b o with
  |some x=>rw[hg]at hv;simp at hv;subst hv;exact h.lies b o x hg
  |none=>rw[hg]at hv;simp at hv;exact hl _ _ _ hv
 .intro k cs hk
  obtain⟨vs,e,h1,h2,h3⟩:=h.box k cs hk
  exact⟨vs,e,h1,h2,h3.ext hE⟩
 .intro k o hk
  simp[Ij,h.boxG k o hk,hb k hk o]
 .intro b o v hv
  simp only[Ij]at hv
  cases hg:g.G b o with
  |some x=>rw[hg]at hv;simp at hv;subst hv;exact h.new b o x hg
  |none=>rw[hg]at hv;simp at hv;exact .inr (hm b o v hv)
theorem Bys {cx:Cx} {w:World} {gh:Gh} {st:St} (hM:RM cx gh st w) (s:ByteArray) (cap:Nat) (hc:s.size<=cap) (hm:cap<=maxLen) (e:TypeId) (fr:Nat×Nat):
  ∃gh',RM cx gh' st (w.drew.alloc (.cells (bytesRow s cap) e fr))/\Ext gh st gh' st/\ ∀e',RdD gh'.G (.sl e' [.int .u8]) (L8 s) (.slice (some ⟨w.heap.size,0,none⟩) s.size cap):=by
 have hM':=hM.world ((Dc.refl w).drew.alloc (.cells (bytesRow s cap) e fr))
 have hnew:=Es hM (Nat.le_refl w.heap.size)
 let U:A9:=fun b o=>if b=w.heap.size then(bytesRow s cap)[o]? else none
 obtain⟨M2,E2⟩:=hM'.addRead (U:=U) (fun b o v hv=>by
   simp only[U]at hv
   split at hv
   .rename_i hb;subst hb
    rw[<-hv]
    exact World.cell?_alloc_mark w.drew (bytesRow s cap) e fr o
   .cases hv) (fun k hk o=>by
   simp only[U];rw[if_neg (hnew.2.2 k hk)]) (fun t b o ht hs=>by
   simp only[U]
   rw[if_neg]
   intro hb;subst hb
   rw[hnew.2.1 t ht]at hs;cases hs) (fun b o v hv=>by
   simp only[U]at hv
   split at hv
   .rename_i hb;subst hb;exact hnew.1
   .cases hv)
 refine⟨_,M2,E2,fun e'=>?_⟩
 simp only[RdD]
 refine⟨some ⟨w.heap.size,0,none⟩,cap,by simp[L8],by simpa [L8] using hc,hm,fun h=>(by cases h),fun i d hd=>⟨w.heap.size,0,rfl,?_⟩⟩
 simp only[L8,List.getElem?_map]at hd
 have hi:i<s.data.toList.length:=by
  rcases Nat.lt_or_ge i s.data.toList.length with h|h
  .exact h
  .rw[List.getElem?_eq_none h]at hd;cases hd
 rw[List.getElem?_eq_getElem hi]at hd
 simp at hd;subst hd
 simp only[Eo]
 have hcell:(Ij gh.G U) w.heap.size (0+i*[Sh.int IntKind.u8].length)=some (.int .u8 (s.data[i]'(by simpa using hi)).toNat):=by
  simp only[Ij,Vp hM.lies (Nat.le_refl _) _,Option.none_or,U,if_true,bytesRow,List.length_singleton,Nat.mul_one,Nat.zero_add]
  rw[Array.getElem?_append_left (by simpa using hi)]
  simp only[Array.getElem?_map]
  rw[Array.getElem?_eq_getElem (by simpa using hi)]
  rfl
 refine⟨⟨_,hcell,?_⟩,trivial⟩
 show Value.int IntKind.u8 _=Value.int IntKind.u8 _/\_
 refine⟨rfl,?_⟩
 have:=(s.data[i]'(by simpa using hi)).toNat_lt
 simp[Lit.wf,IntKind.min,IntKind.max,IntKind.signed,IntKind.bits];omega
section
theorem Amm {w:World} {b n:Nat} {C:Array Value} {e:TypeId} (hb:w.heap[b]? =some (.cells C e (0,0))) (k:Nat):(w.freeze ⟨b,n,none⟩ 1).heap[k]? =if k=b then some (.cells C e (n,n+1))else w.heap[k]? :=by
 unfold World.freeze
 rw[if_neg (by decide)]
 simp only[Array.getElem?_modify]
 by_cases h:b=k
 .subst h;rw[if_pos rfl,if_pos rfl,hb];rfl
 .rw[if_neg h,if_neg (fun e=>h e.symm)]
theorem RM.freeze {cx:Cx} {w:World} {g:Gh} {st:St} (h:RM cx g st w) {b n:Nat} {C:Array Value} {e:TypeId} (hb:w.heap[b]? =some (.cells C e (0,0))) (hn:Fu cx b)
  (hbox: ∀k,st.has k=true->g.B k≠b) (htok: ∀t,t∈st.live->g.F t b=none):RM cx g st (w.freeze ⟨b,n,none⟩ 1):=by
 have hlt:b<w.heap.size:=(Array.getElem?_eq_some_iff.1 hb).1
 refine⟨⟨?_,?_,?_,?_,?_⟩,?_,h.g0,h.old,?_,h.inj,h.boxG,?_,h.apart,h.tokBox,h.nodup,h.new⟩
 .rw[<-h.moved.os];unfold World.freeze;rw[if_neg (by decide)]
 .rw[<-h.moved.tape];unfold World.freeze;rw[if_neg (by decide)]
 .rw[<-h.moved.output];unfold World.freeze;rw[if_neg (by decide)]
 .refine Nat.le_trans h.moved.size ?_;unfold World.freeze;rw[if_neg (by decide)];simp
 .intro k hk hf
  rw[Amm hb,if_neg,h.moved.block k hk hf]
  intro e;subst e
  rcases hn with q|q
  .omega
  .rw[hf]at q;cases q
 .intro c o v hv
  have h1:=h.lies c o v hv
  unfold World.cell? at h1 ⊢
  simp only at h1 ⊢
  rw[Amm hb]
  by_cases hc:c=b
  .subst hc;rw[hb]at h1;rw[if_pos rfl];exact h1
  .rw[if_neg hc];exact h1
 .intro k cs hk
  obtain⟨vs,e',h1,h2,h3⟩:=h.box k cs hk
  exact⟨vs,e',by rw[Amm hb,if_neg (hbox k (Gs hk))];exact h1,h2,h3⟩
 .intro t ht
  obtain⟨h1,h2,h3⟩:=h.tok t ht
  refine⟨h1,fun k o hk=>?_,h3⟩
  rw[Amm hb,if_neg (fun e=>by rw[e,htok t ht]at hk;cases hk)]
  exact h2 k o hk
theorem A8g {P:Program} (w:World) (t e:TypeId) {b n c:Nat} {C:Array Value} {e':TypeId} {fr:Nat×Nat} (hb:w.heap[b]? =some (.cells C e' fr)) (ht:P.underlying t=some (.slice e)) (he:P.underlying e=some (.int .u8)):
  (convert t t (.slice (some ⟨b,0,none⟩) n c)).run P w= .ok (.slice (some ⟨b,0,none⟩) n c) (w.freeze ⟨b,C.size,none⟩ 1):=by
 have hsh:w.shape? b=some (e',C.size):=by
  unfold World.shape?
  rw[hb]
 simp[convert,run_underlying ht,run_underlying he,markStringish,hsh]
variable {P:Program} {g:Cfg} (hC:CfgOk P g) {cx:Cx} {gh:Gh} {st:St} {a:Act} {w:World} {nt:Nat} (hM:RM cx gh st w) (hE:Env nt cx gh st a)
 {o:Oper} {ρ:Type} {k:PV->Ef->Option ρ} {r:ρ} {next:Act->World->Prop} {Q:Exit->Act->World->Prop}
 (hk: ∀pv ef,k pv ef=some r-> ∃st',ef.app o.dst st=some st')
 (hn: ∀gh' pv ef st' v w',k pv ef=some r->ef.app o.dst st=some st'->RM cx gh' st' w'->Ext gh st gh' st'->st'.env=st.env->VR cx gh' st' pv v->next (a.put o.dst v) w')
include hC hM hE hk hn
theorem Byt {op:BinOp} {t u:Nat} {x y:Operand} (ho:o.op= .binOp op t x y u) (h:(ob (g.ty t) fun T=>ob (evO g.ty st t x) fun p=>ob (evO g.ty st u y) fun q=>Bei T op p q fun r=>k (.v false [r]) .none)=some r):o.wp P a w next Q:=by
 obtain⟨T,hT,h⟩:=Ah h
 obtain⟨p,hp,h⟩:=Ah h
 obtain⟨q,hq,h⟩:=Ah h
 have hvp:=Kg hE hp
 have hvq:=Kg hE hq
 have hok:=hC.ty t T hT
 have key: ∃c v,k (.v false [c]) .none=some r/\(eqGuard op t x y (a.eval x) (a.eval y)).run P w= .ok () w/\(binOp op t (a.eval x) (a.eval y)).run P w= .ok v w/\RdC c v:=by
  unfold Bei at h
  split at h
  .rename_i k1 m tm k2 n tn _
   have e1:a.eval x= .int k1 m:=hvp.1.1.1
   have e2:a.eval y= .int k2 n:=hvq.1.1.1
   have hg:(eqGuard op t x y (a.eval x) (a.eval y)).run P w= .ok () w:=by rw[e1,e2];cases op<;>simp[eqGuard,Sem.run]
   have w1:(Lit.int k1 m).wf=true:=hvp.1.1.2
   have w2:(Lit.int k2 n).wf=true:=hvq.1.1.2
   split at h
   .obtain⟨c,v,h1,h2,h3⟩:=Bhc (P:=P) (w:=w) (t:=t) (j:=k2) w1 h
    exact⟨c,v,h1,hg,by rw[e1,e2];exact h2,h3⟩
   .obtain⟨c,v,h1,h2,h3⟩:=Bhc (P:=P) (w:=w) (t:=t) (j:=k2) w1 h
    exact⟨c,v,h1,hg,by rw[e1,e2];exact h2,h3⟩
   .rename_i hn1 hn2
    split at h
    .rename_i hk;subst hk
     obtain⟨c,v,h1,h2,h3⟩:=B0s (P:=P) (w:=w) (t:=t) w1 w2 ⟨hn1,hn2⟩ h
     exact⟨c,v,h1,hg,by rw[e1,e2];exact h2,h3⟩
    .cases h
  .rename_i b1 t1 b2 t2 _
   have e1:a.eval x= .bool b1:=hvp.1.1
   have e2:a.eval y= .bool b2:=hvq.1.1
   split at h
   .rename_i hag hsh _ _ _
    have hu:=hok.bool hag hsh
    refine⟨_,_,h,by rw[e1,e2];simp[eqGuard,Sem.run],?_,Qz _⟩
    rw[e1,e2]
    simp[binOp,Sem.run_bind,run_equal_bool _ _ _ _ hu]
   .rename_i hag hsh _ _ _
    have hu:=hok.bool hag hsh
    refine⟨_,_,h,by rw[e1,e2];simp[eqGuard,Sem.run],?_,Qz _⟩
    rw[e1,e2]
    simp[binOp,Sem.run_bind,run_equal_bool _ _ _ _ hu]
   .cases h
  .rename_i b1 t1 b2 t2 _
   have e1:a.eval x= .string b1:=hvp.1.1
   have e2:a.eval y= .string b2:=hvq.1.1
   split at h
   .rename_i hag hsh _ _ _
    have hu:=hok.str hag hsh
    refine⟨_,_,h,by rw[e1,e2];simp[eqGuard,Sem.run],?_,Qz _⟩
    rw[e1,e2]
    simp[binOp,Op.stringOp,Sem.run_pure,Bqk]
   .rename_i hag hsh _ _ _
    have hu:=hok.str hag hsh
    refine⟨_,_,h,by rw[e1,e2];simp[eqGuard,Sem.run],?_,Qz _⟩
    rw[e1,e2]
    simp[binOp,Op.stringOp,Sem.run_pure,Bqk]
   .rename_i hag hsh _ _ _
    obtain⟨hsz,h⟩:=Bb h
    have hsz:=of_decide_eq_true hsz
    refine⟨_,_,h,by rw[e1,e2];simp[eqGuard,Sem.run],?_,⟨fun G=>rfl,rfl,rfl⟩⟩
    rw[e1,e2]
    have hn: ¬(((b1:ByteArray).size+(b2:ByteArray).size:Nat):Int)>IntKind.i64.max:=by
     rw[show IntKind.i64.max=9223372036854775807 from rfl]
     omega
    simp only[binOp,Op.stringOp]
    rw[if_neg hn]
    rfl
   .cases h
  .rename_i xs ys _
   obtain⟨hb,h⟩:=Bb h
   simp only[Bool.and_eq_true]at hb
   obtain⟨hu,hs1,hs2,hs3⟩:=hok.eqv hb.1.1 hb.1.2
   have hsh:=Sh.eq_of_beqs _ _ hb.2
   obtain⟨vs,e1,c1⟩:=hvp
   obtain⟨us,e2,c2⟩:=hvq
   have hg:(eqGuard op t x y (a.eval x) (a.eval y)).run P w= .ok () w:=by rw[e1,e2];exact run_eqGuard_agg w op t x y _ _ hs2
   have hrun: ∀b,C5 xs ys=some b->(Op.equalIn 10000 t (.agg vs.toArray) (.agg us.toArray)).run P w= .ok b w:=fun b hb=>by
    rw[show 10000=9999+1 from rfl,run_equalIn_struct w 9999 t _ _ hu hs1]
    exact Aw8 9997 hs3 hsh c1 c2 (fun j v hv=>by simpa using hv) (fun j v hv=>by simpa using hv) hb
   split at h
   .obtain⟨b,hb',h⟩:=Ah h
    refine⟨_,_,h,hg,?_,Qz _⟩
    rw[e1,e2,run_eql_struct,hrun b hb'];rfl
   .obtain⟨b,hb',h⟩:=Ah h
    refine⟨_,_,h,hg,?_,Qz _⟩
    rw[e1,e2,run_neq_struct,hrun b hb'];rfl
   .cases h
  .cases h
 obtain⟨c,v,h1,h2,h3,h4⟩:=key
 refine C9 (v:=v) (w':=w) ?_ (hn gh _ .none st _ w h1 rfl hM (Ext.refl _ _) rfl h4.cr)
 unfold execOp;rw[ho]
 simp only[Sem.run_bind,Sem.run_pure,Result.andThen_ok,h2,h3]
theorem Bts {s d:Nat} {x:Operand} (ho:o.op= .convert s d x) (h:(ob (g.ty s) fun S=>ob (g.ty d) fun T=>ob (ev1 g.ty st s x) fun c=>
  match S.agg,S.shs,T.agg,T.shs,c with
  |_,_,false,[.int j],⟨.int _,n,_⟩=>k (.v false [⟨.int j,j.wrap n,.nil⟩]) .none
  |false,[.sl _ [.int .u8]],false,[.str],⟨.sl _ [.int .u8],l,_⟩=>k (.v false [⟨.str,H8 l,.nil⟩]) .none
  |false,[.str],false,[.sl e [.int .u8]],⟨.str,s,_⟩=>chk (decide ((s:ByteArray).size<=4294967296)) (k (.v false [⟨.sl e [.int .u8],L8 s,.rd⟩]) .none)
  |false,[.sl _ [.int .u8]],false,[.sl _ [.int .u8]],⟨.sl e [.int .u8],l,.own t⟩=>chk (Nat.beq s d) (chk (Nat.blt 0 (List.length (α:=dens [.int .u8]) l)) (k (.v false [⟨.sl e [.int .u8],l,.rd⟩]) (.toks [t] [])))
  |_,_,_,_,_=>none)=some r):o.wp P a w next Q:=by
 obtain⟨S,hS,h⟩:=Ah h
 obtain⟨T,hT,h⟩:=Ah h
 obtain⟨c,hc,h⟩:=Ah h
 obtain⟨_,_,D,_,_,_,_,hD,_⟩:=(hC.ty s S hS).inf
 split at h
 .rename_i j kk n tk hag hsh
  have hu:=(hC.ty d T hT).int j hag hsh
  have e:a.eval x= .int kk n:=(Kh hE hc).1.1
  refine C9 (v:=.int j (j.wrap n)) (w':=w) ?_ (hn gh _ .none st _ w h rfl hM (Ext.refl _ _) rfl (Gu (wf_wrap _ _)).cr)
  unfold execOp;rw[ho]
  simp only[e,convert,Sem.run_bind,Sem.run_pure,Result.andThen_ok,run_underlying hD w,run_underlying hu w,Conv.intToInt]
 .rename_i e0 e1 l tk hsa hss hag hsh
  have hu:=(hC.ty d T hT).str hag hsh
  have hs:=((hC.ty s S hS).sl e0 _ hsa hss).1
  have he:=(hC.ty s S hS).elt e0 _ hsa hss
  have hrd:RdD gh.G (.sl e1 [.int .u8]) l (a.eval x):=(Kh hE hc).1
  simp only[RdD]at hrd
  obtain⟨ad,cap,hv,hcap,hmax,hnil,hel⟩:=hrd
  refine C9 (v:=.string (H8 l)) (w':=w) ?_ (hn gh _ .none st _ w h rfl hM (Ext.refl _ _) rfl (show VR cx gh st (.v false [⟨.str,H8 l,.nil⟩]) _ from⟨⟨rfl,fun _ _ e=>by cases e⟩,trivial⟩))
  unfold execOp;rw[ho]
  have hrun:(convert s d (.slice ad (List.length (α:=dens [.int .u8]) l) cap)).run P w= .ok (.string (H8 l)) w:=by
   cases ad with
   |none=>
    rw[run_convert_bytes_nil w s e0 hs he _ _ d hu]
    have:l=[]:=by
     cases l with
     |nil=>rfl
     |cons d r=>obtain⟨b,o,hE,_⟩:=hel 0 d rfl;cases hE
    subst this;rfl
   |some ad=>
    cases l with
    |nil=>
     rw[run_convert_bytes_string w s d e0 _ _ cap hs he hu,run_bytesToString w ad _ cap [] (by
      have:=run_loadCells_list (P:=P) w ad [] (fun j v hj=>by simp at hj)
      simpa using this)]
     rfl
    |cons d0 r0=>
     obtain⟨b,oo,hE,_⟩:=hel 0 d0 rfl
     cases hE
     rw[run_convert_bytes_arg w s e0 hs he b oo _ cap ((d0::r0).map fun d=>d.1) (by simp) (fun i hi=>?_) d hu]
     .simp[strOfNums,H8]
     .have hi':i<(d0::r0).length:=hi
      obtain⟨b',o',hE',hrd'⟩:=hel i _ (List.getElem?_eq_getElem hi')
      cases hE'
      simp only[Eo]at hrd'
      obtain⟨⟨u,h1,h2⟩,_⟩:=hrd'
      simp only[RdD]at h2
      have:=hM.lies _ _ _ h1
      rw[h2.1]at this
      simp only[List.length_singleton,Nat.mul_one]at this
      rw[this]
      have h9:((d0::r0).map fun d=>d.1)[i]? =some ((d0::r0)[i]'hi').1:=by rw[List.getElem?_map,List.getElem?_eq_getElem hi'];rfl
      rw[List.getD_eq_getElem?_getD,h9];rfl
  simp only[hv,Sem.run_bind,Sem.run_pure,Result.andThen_ok,hrun]
 .rename_i e str tk hsa hss hag hsh
  obtain⟨hsz,h⟩:=Bb h
  simp only[decide_eq_true_eq]at hsz
  have hs:=(hC.ty s S hS).str hsa hss
  have hd:=((hC.ty d T hT).sl e _ hag hsh).1
  have he:=(hC.ty d T hT).elt e _ hag hsh
  have hv:a.eval x= .string str:=(Kh hE hc).1
  have hrun:=run_bytes_of_string (P:=P) w s d e str hs hd he
  obtain⟨gh',M',E',hrd⟩:=Bys hM str (grownCap w str.size 0 e) (grownCap_ge w _ _ _) (grownCap_le_maxLen w _ _ _ (by unfold maxLen;omega)) e ((bytesRow str (grownCap w str.size 0 e)).size,(bytesRow str (grownCap w str.size 0 e)).size+1)
  refine C9 (v:=.slice (some ⟨w.heap.size,0,none⟩) str.size (grownCap w str.size 0 e)) (w':=_) ?_ (hn gh' _ .none st _ _ h rfl M' E' rfl (show VR cx gh' st (.v false [⟨.sl e [.int .u8],L8 str,.rd⟩]) _ from⟨⟨hrd e,trivial⟩,trivial⟩))
  unfold execOp;rw[ho]
  simp only[hv,Sem.run_bind,Sem.run_pure,Result.andThen_ok,hrun]
 .rename_i e0 e1 e2 l t hsa hss hag hsh
  obtain⟨hsd0,hA⟩:=Bb h
  obtain⟨hpos0,hB⟩:=Bb hA
  have hsd:=Nat.eq_of_beq_eq_true hsd0
  have hpos:0<List.length (α:=dens [.int .u8]) l:=Nat.le_of_ble_eq_true hpos0
  obtain⟨st',hst⟩:=hk _ _ hB
  have hst0:=hst
  obtain⟨lv,hlv,hst⟩:=Ah hst
  obtain⟨us,hus,hst⟩:=Ah hst
  simp only[Xw,Option.some.injEq]at hus
  subst hus
  simp only[List.reverse_nil,List.nil_append,Option.some.injEq]at hst
  subst hst
  simp only[eat]at hlv
  cases hct:st.live.contains t with
  |false=>rw[hct]at hlv;cases hlv
  |true=>
   rw[hct]at hlv
   simp only[cond_true,Option.some.injEq]at hlv
   subst hlv
   have ht:t∈st.live:=List.contains_iff_mem.1 hct
   have hs:=((hC.ty s S hS).sl e0 _ hsa hss).1
   have he:=(hC.ty s S hS).elt e0 _ hsa hss
   obtain⟨hrd,_,hown⟩:=Kh hE hc
   obtain⟨hO,_⟩:=hown ht
   simp only[Bf]at hO
   obtain⟨css,r,hs',⟨_,⟨_,h0⟩|⟨b,cap,cur,hv,hr,_⟩⟩,hp,_⟩:=hO
   .omega
   .have hFb:=hp.2 r (by simp) b _ hr
    obtain⟨_,hl,hmine⟩:=hM.tok t ht
    have hheap:=hl b _ hFb
    obtain⟨M1,E1⟩:=hM.drop (live:=st.live.erase t) (fun u hu=>List.mem_of_mem_erase hu) (hM.nodup.erase t)
    have M2:=M1.freeze (n:=cur.size) hheap (hmine b _ hFb) (fun k hk e=>by
     have:=hM.tokBox t k ht hk
     rw[e,hFb]at this;cases this) (fun u hu=>by
     have hu':=(hM.nodup.mem_erase_iff).1 hu
     rcases hM.apart u t hu'.2 ht hu'.1 b with q|q
     .exact q
     .rw[q]at hFb;cases hFb)
    refine C9 (v:=a.eval x) (w':=_) ?_ (hn gh _ _ _ _ _ hB hst0 M2 E1 rfl (show VR cx gh _ (.v false [⟨.sl e2 [.int .u8],l,.rd⟩]) _ from⟨⟨hrd,trivial⟩,trivial⟩))
    unfold execOp;rw[ho,<-hsd]
    simp only[hv,Sem.run_bind,Sem.run_pure,Result.andThen_ok,A8g w s e0 hheap hs he]
 .cases h
end
end
section

def Gn (cx:Cx) (gh:Gh) (st:St) (f:Ac):Prop:=∀b o,f b=some o->Fu cx b/\(∀t,t∈st.live->gh.F t b=none)/\(∀k,st.has k=true->gh.B k≠b)/\ ∀o',gh.G b o'=none
def more (st:St) (n k:Nat):St:={st with live:=(List.range' n k).reverse++st.live,used:=(List.range' n k).reverse++st.used}
theorem Bhh (st:St) (n k:Nat):more st n (k+1)=more {st with live:=n::st.live,used:=n::st.used} (n+1) k:=by
 simp[more,List.range'_succ]
theorem Afc (st:St) (n:Nat):more st n 0=st:=by simp[more]
theorem Q0: ∀(n:Nat) (xs:List Sg),n<=(Dl n xs).2
 |n,[]=>Nat.le_refl _
 |n,⟨.sl e cs,d⟩::r=>Nat.le_trans (Nat.le_succ n) (Q0 (n+1) r)
 |n,⟨.int k,d⟩::r=>Q0 n r
 |n,⟨.bool,d⟩::r=>Q0 n r
 |n,⟨.str,d⟩::r=>Q0 n r
 |n,⟨.junk,d⟩::r=>Q0 n r
theorem Wp: ∀(n:Nat) (rs:List RV),n<=(Dg n rs).2
 |n,[]=>Nat.le_refl _
 |n,(a,xs)::r=>Nat.le_trans (Q0 n xs) (Wp _ r)
theorem I2: ∀ {m used used':List Nat},Xw used m=some used'->used'=m.reverse++used/\ ∀t,t∈m->t∉used
 |[],used,used',h=>by simp[Xw]at h;subst h;exact⟨rfl,fun t h=>by cases h⟩
 |t::r,used,used',h=>by
  simp only[Xw]at h
  cases hc:used.contains t with
  |true=>rw[hc]at h;cases h
  |false=>
   rw[hc]at h
   obtain⟨h1,h2⟩:=I2 h
   refine⟨by rw[h1];simp,fun u hu hm=>?_⟩
   rcases List.mem_cons.1 hu with e|hu'
   .subst e;rw[List.contains_iff_mem.2 hm]at hc;cases hc
   .exact h2 u hu' (List.mem_cons_of_mem _ hm)
theorem Xx {cx:Cx} {w:World}: ∀ {xs:List Sg} {vs:List Value} {f:Ac} {gh:Gh} {st:St} {n:Nat},RM cx gh st w->OVs f xs vs->Bu f w->Gn cx gh st f->(∀t,n<=t->t<(Dl n xs).2->t∉st.used)->
  ∃gh',RM cx gh' (more st n ((Dl n xs).2-n)) w/\Ext gh st gh' (more st n ((Dl n xs).2-n))/\
   CRs cx gh' (more st n ((Dl n xs).2-n)) (Dl n xs).1 vs/\
   ∀h:Ac,Gn cx gh st h->h.apart f->Gn cx gh' (more st n ((Dl n xs).2-n)) h
 |[],[],f,gh,st,n,hM,_,_,_,_=>by
  have:more st n ((Dl n []).2-n)=st:=by simp[Dl,Afc]
  rw[this]
  exact⟨gh,hM,Ext.refl _ _,trivial,fun h hh _=>hh⟩
 |⟨.sl e cs,d⟩::xs,v::vs,f,gh,st,n,hM,⟨p,q,hp,hO,hr⟩,hl,hf,hu=>by
  have lp:Bu p w:=hl.sub (hp.2 p (by simp))
  have lq:Bu q w:=hl.sub (hp.2 q (by simp))
  have hpq:p.apart q:=(List.pairwise_cons.1 hp.1).1 q (by simp)
  have hap: ∀h:Ac,h.apart f->h.apart p/\h.apart q:=fun h hh=>⟨Ac.apart_sub hh (Ac.sub_refl _) (hp.2 p (by simp)),Ac.apart_sub hh (Ac.sub_refl _) (hp.2 q (by simp))⟩
  have fp:Gn cx gh st p:=fun b o hb=>hf b o (hp.2 p (by simp) b o hb)
  have fq:Gn cx gh st q:=fun b o hb=>hf b o (hp.2 q (by simp) b o hb)
  have hroom:Ua gh.G (Kr (.sl e cs)) v:=fun b n cap hv hc o ho=>by
   have:=Bf.root (s:=.sl e cs) rfl hO hv hc
   obtain⟨ob,hob⟩:=Option.isSome_iff_exists.1 this
   exact(fp b ob hob).2.2.2 o
  have hge:=Q0 (n+1) xs
  have hdr:(Dl n (⟨.sl e cs,d⟩::xs)).2=(Dl (n+1) xs).2:=rfl
  have hlen:(Dl n (⟨.sl e cs,d⟩::xs)).2-n=((Dl (n+1) xs).2-(n+1))+1:=by rw[hdr];omega
  have hst:more st n ((Dl n (⟨.sl e cs,d⟩::xs)).2-n)=more {st with live:=n::st.live,used:=n::st.used} (n+1) ((Dl (n+1) xs).2-(n+1)):=by
   rw[hlen];exact Bhh st n _
  rw[hst]
  obtain⟨g1,M1,E1,C1,B1,G1,F1,V1⟩:=A32 hM (hu n (Nat.le_refl _) (by rw[hdr];omega)) (live':=st.live) (fun _ h=>h) hM.nodup lp (s:=.sl e cs) (hsl:=rfl) (hf:=fun b o hb=>.inl ⟨(fp b o hb).1,(fp b o hb).2.1,(fp b o hb).2.2.1⟩) (hO:=hO) (hr:=hroom)
  have step: ∀h:Ac,Gn cx gh st h->h.apart p->Gn cx g1 {st with live:=n::st.live,used:=n::st.used} h:=fun h hh ha b o hb=>by
   obtain⟨a1,a2,a3,a4⟩:=hh b o hb
   have hpb:p b=none:=(ha b).resolve_left (by rw[hb];simp)
   refine⟨a1,fun t ht=>?_,fun k hk=>by rw[B1];exact a3 k hk,fun o'=>by rw[G1 b hpb];exact a4 o'⟩
   rw[F1]
   simp only
   split
   .exact hpb
   .rename_i hne
    rcases List.mem_cons.1 ht with e|ht'
    .exact(hne e).elim
    .exact a2 t ht'
  obtain⟨g2,M2,E2,C2,N2⟩:=Xx (st:={st with live:=n::st.live,used:=n::st.used}) (n:=n+1) M1 hr lq (step q fq (Ac.apart_symm hpq)) (fun t h1 h2 hm=>by
   rcases List.mem_cons.1 hm with e|hm'
   .omega
   .exact hu t (by omega) (by rw[hdr];exact h2) hm')
  exact⟨g2,M2,E1.trans E2,⟨C1.ext E2,C2⟩,fun h hh ha=>N2 h (step h hh (hap h ha).1) (hap h ha).2⟩
 |⟨.int k,d⟩::xs,v::vs,f,gh,st,n,hM,⟨p,q,hp,hO,hr⟩,hl,hf,hu=>by
  have lp:Bu p w:=hl.sub (hp.2 p (by simp))
  have lq:Bu q w:=hl.sub (hp.2 q (by simp))
  have hpq:p.apart q:=(List.pairwise_cons.1 hp.1).1 q (by simp)
  have hap: ∀h:Ac,h.apart f->h.apart p/\h.apart q:=fun h hh=>⟨Ac.apart_sub hh (Ac.sub_refl _) (hp.2 p (by simp)),Ac.apart_sub hh (Ac.sub_refl _) (hp.2 q (by simp))⟩
  have fp:Gn cx gh st p:=fun b o hb=>hf b o (hp.2 p (by simp) b o hb)
  have fq:Gn cx gh st q:=fun b o hb=>hf b o (hp.2 q (by simp) b o hb)
  obtain⟨g2,M2,E2,C2,N2⟩:=Xx (n:=n) hM hr lq fq hu
  exact⟨g2,M2,E2,⟨⟨by simpa only[Bf,RdD] using hO,fun e cs he=>by cases he⟩,C2⟩,fun h hh ha=>N2 h hh (hap h ha).2⟩
 |⟨.bool,d⟩::xs,v::vs,f,gh,st,n,hM,⟨p,q,hp,hO,hr⟩,hl,hf,hu=>by
  have lp:Bu p w:=hl.sub (hp.2 p (by simp))
  have lq:Bu q w:=hl.sub (hp.2 q (by simp))
  have hpq:p.apart q:=(List.pairwise_cons.1 hp.1).1 q (by simp)
  have hap: ∀h:Ac,h.apart f->h.apart p/\h.apart q:=fun h hh=>⟨Ac.apart_sub hh (Ac.sub_refl _) (hp.2 p (by simp)),Ac.apart_sub hh (Ac.sub_refl _) (hp.2 q (by simp))⟩
  have fp:Gn cx gh st p:=fun b o hb=>hf b o (hp.2 p (by simp) b o hb)
  have fq:Gn cx gh st q:=fun b o hb=>hf b o (hp.2 q (by simp) b o hb)
  obtain⟨g2,M2,E2,C2,N2⟩:=Xx (n:=n) hM hr lq fq hu
  exact⟨g2,M2,E2,⟨⟨by simpa only[Bf,RdD] using hO,fun e cs he=>by cases he⟩,C2⟩,fun h hh ha=>N2 h hh (hap h ha).2⟩
 |⟨.str,d⟩::xs,v::vs,f,gh,st,n,hM,⟨p,q,hp,hO,hr⟩,hl,hf,hu=>by
  have lp:Bu p w:=hl.sub (hp.2 p (by simp))
  have lq:Bu q w:=hl.sub (hp.2 q (by simp))
  have hpq:p.apart q:=(List.pairwise_cons.1 hp.1).1 q (by simp)
  have hap: ∀h:Ac,h.apart f->h.apart p/\h.apart q:=fun h hh=>⟨Ac.apart_sub hh (Ac.sub_refl _) (hp.2 p (by simp)),Ac.apart_sub hh (Ac.sub_refl _) (hp.2 q (by simp))⟩
  have fp:Gn cx gh st p:=fun b o hb=>hf b o (hp.2 p (by simp) b o hb)
  have fq:Gn cx gh st q:=fun b o hb=>hf b o (hp.2 q (by simp) b o hb)
  obtain⟨g2,M2,E2,C2,N2⟩:=Xx (n:=n) hM hr lq fq hu
  exact⟨g2,M2,E2,⟨⟨by simpa only[Bf,RdD] using hO,fun e cs he=>by cases he⟩,C2⟩,fun h hh ha=>N2 h hh (hap h ha).2⟩
 |⟨.junk,d⟩::xs,v::vs,f,gh,st,n,hM,⟨p,q,hp,hO,hr⟩,hl,hf,hu=>by
  have lp:Bu p w:=hl.sub (hp.2 p (by simp))
  have lq:Bu q w:=hl.sub (hp.2 q (by simp))
  have hpq:p.apart q:=(List.pairwise_cons.1 hp.1).1 q (by simp)
  have hap: ∀h:Ac,h.apart f->h.apart p/\h.apart q:=fun h hh=>⟨Ac.apart_sub hh (Ac.sub_refl _) (hp.2 p (by simp)),Ac.apart_sub hh (Ac.sub_refl _) (hp.2 q (by simp))⟩
  have fp:Gn cx gh st p:=fun b o hb=>hf b o (hp.2 p (by simp) b o hb)
  have fq:Gn cx gh st q:=fun b o hb=>hf b o (hp.2 q (by simp) b o hb)
  obtain⟨g2,M2,E2,C2,N2⟩:=Xx (n:=n) hM hr lq fq hu
  exact⟨g2,M2,E2,⟨⟨by simpa only[Bf,RdD] using hO,fun e cs he=>by cases he⟩,C2⟩,fun h hh ha=>N2 h hh (hap h ha).2⟩
 |[],_::_,_,_,_,_,_,h,_,_,_=>h.elim
 |⟨_,_⟩::_,[],_,_,_,_,_,h,_,_,_=>h.elim
theorem A21 {cx:Cx} {w:World} {a:Bool} {xs:List Sg} {v:Value} {f:Ac} {gh:Gh} {st:St} {n:Nat} (hM:RM cx gh st w) (hO:OVv f (a,xs) v) (hl:Bu f w) (hf:Gn cx gh st f) (hu: ∀t,n<=t->t<(Dl n xs).2->t∉st.used):
  ∃gh',RM cx gh' (more st n ((Dl n xs).2-n)) w/\Ext gh st gh' (more st n ((Dl n xs).2-n))/\VRv cx gh' (more st n ((Dl n xs).2-n)) a (Dl n xs).1 v/\
   ∀h:Ac,Gn cx gh st h->h.apart f->Gn cx gh' (more st n ((Dl n xs).2-n)) h:=by
 cases a with
 |true=>
  obtain⟨vs,e,hO⟩:=hO
  obtain⟨g,m,ex,c,q⟩:=Xx hM hO hl hf hu
  exact⟨g,m,ex,⟨vs,e,c⟩,q⟩
 |false=>
  obtain⟨g,m,ex,c,q⟩:=Xx hM hO hl hf hu
  exact⟨g,m,ex,c,q⟩
theorem Amn (st:St) (n j k:Nat):more (more st n j) (n+j) k=more st n (j+k):=by
 simp only[more]
 have:List.range' n (j+k)=List.range' n j++List.range' (n+j) k:=by
  rw[List.range'_append_1]
 rw[this]
 simp only[List.reverse_append,List.append_assoc]
theorem A52 {cx:Cx} {w:World}: ∀ {rs:List RV} {vs:List Value} {f:Ac} {gh:Gh} {st:St} {n:Nat},RM cx gh st w->OVt f rs vs->Bu f w->Gn cx gh st f->(∀t,n<=t->t<(Dg n rs).2->t∉st.used)->
  ∃gh',RM cx gh' (more st n ((Dg n rs).2-n)) w/\Ext gh st gh' (more st n ((Dg n rs).2-n))/\VRt cx gh' (more st n ((Dg n rs).2-n)) (Dg n rs).1 vs
 |[],[],f,gh,st,n,hM,_,_,_,_=>by
  have:more st n ((Dg n []).2-n)=st:=by simp[Dg,Afc]
  rw[this]
  exact⟨gh,hM,Ext.refl _ _,trivial⟩
 |(a,xs)::rs,v::vs,f,gh,st,n,hM,⟨p,q,hp,hO,hr⟩,hl,hf,hu=>by
  have lp:Bu p w:=hl.sub (hp.2 p (by simp))
  have lq:Bu q w:=hl.sub (hp.2 q (by simp))
  have hpq:p.apart q:=(List.pairwise_cons.1 hp.1).1 q (by simp)
  have g1:=Q0 n xs
  have g2:=Wp (Dl n xs).2 rs
  have hall:(Dg n ((a,xs)::rs)).2=(Dg (Dl n xs).2 rs).2:=rfl
  obtain⟨h1,M1,E1,C1,N1⟩:=A21 (n:=n) hM hO lp (fun b o hb=>hf b o (hp.2 p (by simp) b o hb)) (fun t a1 a2=>hu t a1 (by rw[hall];omega))
  have hst:more (more st n ((Dl n xs).2-n)) (Dl n xs).2 ((Dg (Dl n xs).2 rs).2-(Dl n xs).2)=more st n ((Dg n ((a,xs)::rs)).2-n):=by
   have:=Amn st n ((Dl n xs).2-n) ((Dg (Dl n xs).2 rs).2-(Dl n xs).2)
   rw[show n+((Dl n xs).2-n)=(Dl n xs).2 by omega]at this
   rw[this,hall]
   congr 1;omega
  obtain⟨h2,M2,E2,C2⟩:=A52 (n:=(Dl n xs).2) M1 hr lq (N1 q (fun b o hb=>hf b o (hp.2 q (by simp) b o hb)) (Ac.apart_symm hpq)) (fun t a1 a2 hm=>by
   rcases List.mem_append.1 hm with hm'|hm'
   .have:=List.mem_range'_1.1 (List.mem_reverse.1 hm');omega
   .exact hu t (by omega) (by rw[hall];exact a2) hm')
  rw[hst]at M2 E2 C2
  exact⟨h2,M2,E1.trans E2,⟨C1.ext E2,C2⟩⟩
 |[],_::_,_,_,_,_,_,h,_,_,_=>h.elim
 |(_,_)::_,[],_,_,_,_,_,h,_,_,_=>h.elim
theorem Adg {cx:Cx} {g:Gh} {st:St}: ∀ {xs:List Cl} {vs:List Value},CRs cx g st xs vs->RVs g.G (xs.map fun c=>⟨c.sh,c.val⟩) vs
 |[],[],_=>trivial
 |x::xs,v::vs,h=>⟨h.1.1,Adg h.2⟩
 |[],_::_,h=>h.elim
 |_::_,[],h=>h.elim
theorem A33 {ty:Tys} {nt:Nat} {cx:Cx} {g:Gh} {st:St} {a:Act} (hE:Env nt cx g st a): ∀ {xs:List Operand} {ts:List Nat} {vs:List RV},args ty st xs ts=some vs->RVa g.G vs (xs.map a.eval)
 |[],ts,vs,h=>by simp[args]at h;subst h;trivial
 |x::r,ts,vs,h=>by
  simp only[args]at h
  obtain⟨p,hp,h⟩:=Ah h
  split at h
  .rename_i ag xs
   obtain⟨l,hl,h⟩:=Ah h
   simp at h;subst h
   refine⟨?_,A33 hE hl⟩
   have hv:VRv cx g st ag xs (a.eval x):=Kg hE hp
   cases ag with
   |true=>obtain⟨us,e,hc⟩:=hv;exact⟨us,e,Adg hc⟩
   |false=>exact Adg (xs:=xs) (vs:=[a.eval x]) hv
  .cases h

theorem Bcd {cx:Cx} {w:World} {res:List RV} {v:Value} {f:Ac} {gh:Gh} {st:St} {n:Nat} (hM:RM cx gh st w) (hO:Su res v f) (hl:Bu f w) (hf:Gn cx gh st f) (hu: ∀t,n<=t->t<(Dg n res).2->t∉st.used):
  ∃gh',RM cx gh' (more st n ((Dg n res).2-n)) w/\Ext gh st gh' (more st n ((Dg n res).2-n))/\VR cx gh' (more st n ((Dg n res).2-n)) (Oe (Dg n res).1) v:=by
 by_cases hone: ∃ag xs,res=[(ag,xs)]
 .obtain⟨ag,xs,rfl⟩:=hone
  have hd:Dg n [(ag,xs)]=([(ag,(Dl n xs).1)],(Dl n xs).2):=rfl
  rw[hd]at hu ⊢
  obtain⟨g2,M2,E2,C2,_⟩:=A21 (n:=n) hM hO hl hf hu
  exact⟨g2,M2,E2,C2⟩
 .have hO': ∃us:List Value,v= .tuple us.toArray/\OVt f res us:=by
   cases res with
   |nil=>exact hO
   |cons q rs=>
    cases rs with
    |nil=>exact(hone ⟨q.1,q.2,rfl⟩).elim
    |cons q2 rs=>exact hO
  obtain⟨us,rfl,hO'⟩:=hO'
  obtain⟨g2,M2,E2,C2⟩:=A52 (n:=n) hM hO' hl hf hu
  refine⟨g2,M2,E2,?_⟩
  have hr:Oe (Dg n res).1= .tup (Dg n res).1:=by
   cases res with
   |nil=>rfl
   |cons q rs=>
    cases rs with
    |nil=>exact(hone ⟨q.1,q.2,rfl⟩).elim
    |cons q2 rs=>rfl
  rw[hr]
  exact⟨us,rfl,C2⟩
theorem Byu {d:Option Nat} {st st':St} {n m:Nat} (hst:(Ef.toks [] (List.range' n m)).app d st=some st'):st'=more st n m/\ ∀t,n<=t->t<n+m->t∉st.used:=by
 have hst2:ob (Xw st.used (List.range' n m)) (fun used=>some {st with live:=(List.range' n m).reverse++st.live,used:=used})=some st':=hst
 obtain⟨u,hu1,hst2⟩:=Ah hst2
 obtain⟨b1,b2⟩:=I2 hu1
 subst b1
 simp only[Option.some.injEq]at hst2
 exact⟨hst2.symm,fun t t1 t2=>b2 t (List.mem_range'_1.2 ⟨t1,t2⟩)⟩
theorem Uc {P:Program} {w:World} {a:Act} {o:Oper} {f:FuncId} {as:Array Operand} {ts:Array TypeId} (ho:o.op= .call {callee:=.value (.func f),args:=as,argTypes:=ts})
  (hf: ∃F,P.funcs[f]? =some F/\(F.name== "runtime.NumGoroutine")=false/\F.body.isSome=true):(execOp a.eval o).run P w= .ok (.enter f (as.toList.map a.eval).toArray) w:=by
 obtain⟨F,hF,hnm,hbd⟩:=hf
 unfold execOp;rw[ho]
 obtain⟨B,hB⟩:=Option.isSome_iff_exists.1 hbd
 have hnm':F.name≠ "runtime.NumGoroutine" :=by simpa using hnm
 simp[resolve,Act.eval,Deferred.ofValue,invoke,callFunc,Sem.run_bind,Sem.run_pure,Result.andThen_ok,program,Sem.run,hF,hnm',hB]
 rw[<-Array.toList_map,Array.toArray_toList]
theorem RM.addBox {cx:Cx} {w:World} {g:Gh} {st:St} (h:RM cx g st w) {n:Nat} (hnew:st.has n=false) {xs:List Cl} {vs:List Value} {e:TypeId} {b:Nat} (hb:w.heap[b]? =some (.cells vs.toArray e (0,0))) (hx:CRs cx g st xs vs)
  (hm:Fu cx b) (hbx: ∀k,st.has k=true->g.B k≠b) (hF: ∀t,t∈st.live->g.F t b=none) (hG: ∀o,g.G b o=none):
  RM cx ⟨g.G,fun k=>if k=n then b else g.B k,g.F,g.V,g.S⟩ {st with boxes:=(n,xs)::st.boxes} w/\
  Ext g st ⟨g.G,fun k=>if k=n then b else g.B k,g.F,g.V,g.S⟩ {st with boxes:=(n,xs)::st.boxes}:=by
 have hne: ∀k,st.has k=true->k≠n:=fun k hk e=>by rw[e,hnew]at hk;cases hk
 have hE:Ext g st ⟨g.G,fun k=>if k=n then b else g.B k,g.F,g.V,g.S⟩ {st with boxes:=(n,xs)::st.boxes}:=
  ⟨fun _ _ _ h=>h,fun b hb=>by simp only;rw[if_neg (hne b hb)],fun b hb=>by rw[Hk,hb];simp,fun _ h=>h,fun t ht _=>⟨ht,rfl,rfl,rfl,fun _ _ _=>rfl⟩⟩
 have hcase: ∀k,({st with boxes:=(n,xs)::st.boxes}:St).has k=true->k=n\/st.has k=true:=fun k hk=>by
  rw[Hk]at hk
  simpa using hk
 refine⟨⟨h.moved,h.lies,h.g0,h.old,?_,?_,?_,h.tok,h.apart,?_,h.nodup,h.new⟩,hE⟩
 .intro k cs hk
  rw[Mo]at hk
  by_cases hkn:k=n
  .subst hkn
   simp at hk
   subst hk
   exact⟨vs,e,by simpa using hb,by simpa using hm,hx.ext hE⟩
  .rw[if_neg hkn]at hk
   obtain⟨us,e',h1,h2,h3⟩:=h.box k cs hk
   refine⟨us,e',?_,?_,h3.ext hE⟩
   .simp only;rw[if_neg hkn];exact h1
   .simp only;rw[if_neg hkn];exact h2
 .intro i j hi hj hij
  simp only at hij
  by_cases h1:i=n
  .by_cases h2:j=n
   .rw[h1,h2]
   .rw[if_pos h1,if_neg h2]at hij
    exact(hbx j ((hcase j hj).resolve_left h2) hij.symm).elim
  .by_cases h2:j=n
   .rw[if_neg h1,if_pos h2]at hij
    exact(hbx i ((hcase i hi).resolve_left h1) hij).elim
   .rw[if_neg h1,if_neg h2]at hij
    exact h.inj i j ((hcase i hi).resolve_left h1) ((hcase j hj).resolve_left h2) hij
 .intro k o hk
  simp only
  by_cases h1:k=n
  .rw[if_pos h1];exact hG o
  .rw[if_neg h1];exact h.boxG k o ((hcase k hk).resolve_left h1)
 .intro t k ht hk
  simp only
  by_cases h1:k=n
  .rw[if_pos h1];exact hF t ht
  .rw[if_neg h1];exact h.tokBox t k ht ((hcase k hk).resolve_left h1)
theorem RM.viewed {cx:Cx} {w w':World} {g:Gh} {st st0:St} (h:RM cx g st w') (h0:RM cx g st0 w) (hlv:st.live=st0.live) (hhas: ∀k,st.has k=true->st0.has k=true) {G':A9} (hl:Ez G' w') (hs:g.G.sub G') (hn: ∀b o x,G' b o=some x->g.G b o=some x\/w.heap.size<=b):
  RM cx ⟨G',g.B,g.F,g.V,g.S⟩ st w'/\Ext g st ⟨G',g.B,g.F,g.V,g.S⟩ st:=by
 have hsame: ∀b o,b<w.heap.size->G' b o=g.G b o:=fun b o hb=>by
  cases e:G' b o with
  |some x=>
   rcases hn b o x e with q|q
   .exact q.symm
   .omega
  |none=>
   cases e2:g.G b o with
   |none=>rfl
   |some x=>have:=hs b o x e2;rw[e]at this;cases this
 have hE:Ext g st ⟨G',g.B,g.F,g.V,g.S⟩ st:=⟨hs,fun _ _=>rfl,fun _ h=>h,fun _ h=>h,fun t ht _=>⟨ht,rfl,rfl,rfl,fun b o hsm=>by
  obtain⟨ob,hob⟩:=Option.isSome_iff_exists.1 hsm
  exact hsame b o ((h0.tok t (hlv▸ht)).2.1.lt b ob hob)⟩⟩
 refine⟨⟨h.moved,hl,fun b o v hv=>hs _ _ _ (h.g0 _ _ _ hv),h.old,fun k cs hk=>?_,h.inj,fun k o hk=>?_,h.tok,h.apart,h.tokBox,h.nodup,fun b o v hv=>?_⟩,hE⟩
 .obtain⟨vs,e,h1,h2,h3⟩:=h.box k cs hk
  exact⟨vs,e,h1,h2,h3.ext hE⟩
 .obtain⟨cs,hcs⟩:=Gd (hhas k hk)
  obtain⟨vs,e,h1,_,_⟩:=h0.box k cs hcs
  show G' (g.B k) o=none
  rw[hsame _ o (Array.getElem?_eq_some_iff.1 h1).1]
  exact h.boxG k o hk
 .rcases hn b o v hv with q|q
  .exact h.new b o v q
  .exact .inr (.inl (Nat.le_trans h0.moved.size q))
theorem A8h {cx:Cx} {g:Gh} {st:St}: ∀ {xs:List Sg} {vs:List Value},RVs g.G xs vs->CRs cx g st (xs.map fun s=>⟨s.sh,s.val,Jq s.sh .rd⟩) vs
 |[],[],_=>trivial
 |s::ss,v::vs,h=>by
  refine⟨⟨h.1,?_⟩,A8h h.2⟩
  obtain⟨s,d⟩:=s
  cases s<;>first|trivial|(intro _ _ e;cases e)
 |[],_::_,h=>h.elim
 |_::_,[],h=>h.elim
theorem Bwm {cx:Cx} {g:Gh} {st:St} {r:RV} {v:Value} (h:RVv g.G r v):VRv cx g st r.1 (r.2.map fun s=>⟨s.sh,s.val,Jq s.sh .rd⟩) v:=by
 obtain⟨a,xs⟩:=r
 cases a with
 |true=>obtain⟨vs,e,h⟩:=h;exact⟨vs,e,A8h h⟩
 |false=>exact A8h (vs:=[v]) h
theorem Bmq {cx:Cx} {g:Gh} {st:St}: ∀ {rs:List RV} {vs:List Value},RVa g.G rs vs->VRt cx g st (Bej rs) vs
 |[],[],_=>trivial
 |r::rs,v::vs,h=>⟨Bwm h.1,Bmq h.2⟩
 |[],_::_,h=>h.elim
 |_::_,[],h=>h.elim
theorem Bql {cx:Cx} {g:Gh} {st:St} {rs:List RV} {v:Value} (h:Of g.G rs v):VR cx g st (Oe (Bej rs)) v:=by
 match rs,h with
 |[],h=>obtain⟨vs,e,h⟩:=h;exact⟨vs,e,Bmq h⟩
 |[r],h=>exact Bwm h
 |r::s::t,h=>obtain⟨vs,e,h⟩:=h;exact⟨vs,e,Bmq h⟩
theorem RM.boxTurn {cx:Cx} {w w':World} {g:Gh} {st:St} (h:RM cx g st w) {b:Nat} {cs:List Cl} (hc:st.bx b=some cs) {o0:Obj} (hm:Moved (Ac.one (g.B b) o0) w w') {xs:List Cl} {vs:List Value} {e:TypeId}
  (hv:w'.heap[g.B b]? =some (.cells vs.toArray e (0,0))) (hx:CRs cx g st xs vs):
  RM cx g {st with boxes:=(b,xs)::st.boxes} w'/\Ext g st g {st with boxes:=(b,xs)::st.boxes}:=by
 have hlt:st.has b=true:=Gs hc
 have hhas: ∀k,({st with boxes:=(b,xs)::st.boxes}:St).has k=true->st.has k=true:=fun k hk=>by
  rw[Hk]at hk
  by_cases hkb:k=b
  .rw[hkb];exact hlt
  .simpa [hkb] using hk
 have hE:Ext g st g {st with boxes:=(b,xs)::st.boxes}:=
  ⟨fun _ _ _ h=>h,fun _ _=>rfl,fun k hk=>by rw[Hk,hk];simp,fun _ h=>h,fun t ht _=>⟨ht,rfl,rfl,rfl,fun _ _ _=>rfl⟩⟩
 have hblk: ∀k ob,k≠g.B b->w.heap[k]? =some ob->w'.heap[k]? =some ob:=fun k ob hk ho=>by
  rw[hm.block k (Array.getElem?_eq_some_iff.1 ho).1 (by simp[Ac.one,hk])];exact ho
 obtain⟨vs',e',h1,h2,h3⟩:=h.box b cs hc
 refine⟨⟨?_,?_,h.g0,h.old,?_,fun i j hi hj=>h.inj i j (hhas i hi) (hhas j hj),fun k o hk=>h.boxG k o (hhas k hk),?_,h.apart,fun t k ht hk=>h.tokBox t k ht (hhas k hk),h.nodup,h.new⟩,hE⟩
 .refine⟨hm.os.trans h.moved.os,hm.tape.trans h.moved.tape,hm.output.trans h.moved.output,Nat.le_trans h.moved.size hm.size,fun k hk hf=>?_⟩
  rw[hm.block k (Nat.lt_of_lt_of_le hk h.moved.size) ?_,h.moved.block k hk hf]
  simp only[Ac.one]
  rw[if_neg]
  intro hkb
  subst hkb
  rcases h2 with q|q
  .omega
  .rw[hf]at q;cases q
 .intro c o v hv'
  have hne:c≠g.B b:=fun e=>by rw[e,h.boxG b o hlt]at hv';cases hv'
  have h1:=h.lies c o v hv'
  unfold World.cell? at h1 ⊢
  simp only at h1 ⊢
  cases hq:w.heap[c]? with
  |none=>rw[hq]at h1;cases h1
  |some ob=>rw[hblk c ob hne hq];rw[hq]at h1;exact h1
 .intro k cs' hk'
  rw[Mo]at hk'
  by_cases hkb:k=b
  .subst hkb
   simp at hk'
   subst hk'
   exact⟨vs,e,hv,h2,hx.ext hE⟩
  .rw[if_neg hkb]at hk'
   obtain⟨vs2,e2,g1,g2,g3⟩:=h.box k cs' hk'
   exact⟨vs2,e2,hblk _ _ (fun he=>hkb (h.inj k b (Gs hk') hlt he)) g1,g2,g3.ext hE⟩
 .intro t ht
  obtain⟨g1,g2,g3⟩:=h.tok t ht
  refine⟨g1,fun k o hk'=>hblk k o (fun e=>by rw[e,h.tokBox t b ht hlt]at hk';cases hk') (g2 k o hk'),g3⟩
def VRl (cx:Cx) (g:Gh) (st:St):List PV->List Value->Prop
 |[],[]=>True
 |p::ps,v::vs=>VR cx g st p v/\VRl cx g st ps vs
 |_,_=>False
theorem Ah6 {ty:Tys} {nt:Nat} {cx:Cx} {g:Gh} {st:St} {a:Act} (hE:Env nt cx g st a): ∀ {xs:List Operand} {ts:List Nat} {ps:List PV},N8 ty st xs ts=some ps->VRl cx g st ps (xs.map a.eval)
 |[],ts,ps,h=>by simp[N8]at h;subst h;trivial
 |x::r,ts,ps,h=>by
  simp only[N8]at h
  obtain⟨p,hp,h⟩:=Ah h
  obtain⟨l,hl,h⟩:=Ah h
  simp at h;subst h
  exact⟨Kg hE hp,Ah6 hE hl⟩
theorem Bwn {cx:Cx} {g:Gh} {st:St} {a:Bool} {xs:List Cl} {v:Value} (h:VRv cx g st a xs v):RVv g.G (strip (a,xs)) v:=by
 cases a with
 |true=>obtain⟨us,e,hc⟩:=h;exact⟨us,e,Adg hc⟩
 |false=>exact Adg (xs:=xs) (vs:=[v]) h
theorem Bmr {cx:Cx} {g:Gh} {st:St} {b:Nat} {vs0:List Value}: ∀ {ms:List Nat} {ps:List PV} {vals:List Value} {rs:List RV},(ms.all fun m=>Nat.beq m 0)=true->VRl cx g st ps vals->D3 st ms ps=some rs->BVa g.G b vs0 ms rs vals
 |ms,[],[],rs,_,_,h=>by simp[D3]at h;subst h;trivial
 |ms,p::ps,v::vals,rs,hz,hv,h=>by
  have hh:ms.headD 0=0:=by
   cases ms with
   |nil=>rfl
   |cons m r=>simp only[List.all_cons,Bool.and_eq_true]at hz;exact Nat.eq_of_beq_eq_true hz.1
  have ht:(ms.tail.all fun m=>Nat.beq m 0)=true:=by
   cases ms with
   |nil=>rfl
   |cons m r=>simp only[List.all_cons,Bool.and_eq_true]at hz;exact hz.2
  cases p with
  |v a xs=>
   simp only[D3,hh]at h
   obtain⟨l,hl,h⟩:=Ah (show ob (D3 st ms.tail ps) (fun l=>some (strip (a,xs)::l))=some rs from h)
   simp at h;subst h
   refine⟨?_,Bmr ht hv.2 hl⟩
   rw[if_neg (by omega)]
   exact Bwn hv.1
  |box b o=>
   cases o with
   |zero=>
    have h':(none:Option (List RV))=some rs:=by rw[<-h];simp only[D3,hh];rfl
    cases h'
   |succ o=>simp[D3]at h
  |any=>simp[D3]at h
  |el _ _ _=>simp[D3]at h
  |tup _=>simp[D3]at h
 |_,[],_::_,_,_,h,_=>h.elim
 |_,_::_,[],_,_,h,_=>h.elim
theorem Beo {cx:Cx} {g:Gh} {st:St} {b:Nat} {cs:List Cl} {vs0:List Value} (hb:st.bx b=some cs) (hcs:CRs cx g st cs vs0): ∀ {ms:List Nat} {ps:List PV} {vals:List Value} {rs:List RV},Hu ms ps=some b->VRl cx g st ps vals->D3 st ms ps=some rs->BVa g.G (g.B b) vs0 ms rs vals
 |ms,[],[],rs,hx,_,h=>by simp[Hu]at hx
 |ms,p::ps,v::vals,rs,hx,hv,h=>by
  cases p with
  |v a xs=>
   simp only[Hu]at hx
   cases hz:Nat.beq (ms.headD 0) 0 with
   |false=>rw[hz]at hx;cases hx
   |true=>
    rw[hz]at hx
    have hh:=Nat.eq_of_beq_eq_true hz
    simp only[D3,hh]at h
    obtain⟨l,hl,h⟩:=Ah (show ob (D3 st ms.tail ps) (fun l=>some (strip (a,xs)::l))=some rs from h)
    simp at h;subst h
    refine⟨?_,Beo hb hcs hx hv.2 hl⟩
    rw[if_neg (by omega)]
    exact Bwn hv.1
  |box b' o=>
   cases o with
   |zero=>
    simp only[Hu]at hx
    cases hz:Nat.beq (ms.headD 0) 3 with
    |false=>rw[hz]at hx;cases hx
    |true=>
     rw[hz]at hx
     obtain⟨hall,hx⟩:=Bb hx
     simp at hx;subst hx
     have hh:=Nat.eq_of_beq_eq_true hz
     simp only[D3,hz,cond_true,hb]at h
     obtain⟨l,hl,h⟩:=Ah (show ob (D3 st ms.tail ps) (fun l=>some (strip (true,cs)::l))=some rs from h)
     simp at h;subst h
     refine⟨?_,Bmr hall hv.2 hl⟩
     rw[if_pos hh]
     exact⟨hv.1.2,Adg hcs⟩
   |succ o=>simp[Hu]at hx
  |any=>simp[Hu]at hx
  |el _ _ _=>simp[Hu]at hx
  |tup _=>simp[Hu]at hx
 |_,[],_::_,_,_,h,_=>h.elim
 |_,_::_,[],_,_,h,_=>h.elim
theorem CR.ro0 {cx:Cx} {g:Gh} {st:St} {x:Cl} {v:Value} (hr:roC x=true) (h:CR cx g st x v):CR cx ⟨cx.G0,g.B,g.F,g.V,g.S⟩ st x v:=by
 obtain⟨sh,val,tok⟩:=x
 obtain⟨h1,h2⟩:=h
 have sc:Ep sh=false->RdD cx.G0 sh val v:=fun hs=>by
  cases sh with
  |sl e cs=>cases hs
  |int k=>simpa only[RdD] using h1
  |bool=>simpa only[RdD] using h1
  |str=>simpa only[RdD] using h1
  |junk=>simpa only[RdD] using h1
 cases tok with
 |ro=>exact⟨h2,h2⟩
 |pin j=>exact⟨h2.1,h2⟩
 |nil=>
  refine⟨?_,h2⟩
  cases hs:Ep sh with
  |false=>exact sc hs
  |true=>
   cases sh with
   |sl e cs=>obtain⟨a,ha⟩:=h2 e cs rfl;exact A2z h1 ha _
   |_=>cases hs
 |rd=>exact⟨sc (by simpa [roC] using hr),trivial⟩
 |_=>cases hr
theorem CRs.ro0 {cx:Cx} {g:Gh} {st:St}: ∀ {xs:List Cl} {vs:List Value},xs.all roC=true->CRs cx g st xs vs->CRs cx ⟨cx.G0,g.B,g.F,g.V,g.S⟩ st xs vs
 |[],[],_,_=>trivial
 |x::xs,v::vs,hr,h=>by
  simp only[List.all_cons,Bool.and_eq_true]at hr
  exact⟨h.1.ro0 hr.1,CRs.ro0 hr.2 h.2⟩
 |[],_::_,_,h=>h.elim
 |_::_,[],_,h=>h.elim
theorem VRl.ro0 {cx:Cx} {g:Gh} {st:St}: ∀ {ps:List PV} {vs:List Value},ps.all roP=true->VRl cx g st ps vs->VRl cx ⟨cx.G0,g.B,g.F,g.V,g.S⟩ st ps vs
 |[],[],_,_=>trivial
 |p::ps,v::vs,hr,h=>by
  simp only[List.all_cons,Bool.and_eq_true]at hr
  refine⟨?_,VRl.ro0 hr.2 h.2⟩
  cases p with
  |v a xs=>cases a with
   |true=>obtain⟨us,e,hc⟩:=h.1;exact⟨us,e,CRs.ro0 hr.1 hc⟩
   |false=>exact CRs.ro0 (xs:=xs) (vs:=[v]) hr.1 h.1
  |box b o=>exact h.1
  |any=>cases hr.1
  |el _ _ _=>cases hr.1
  |tup _=>cases hr.1
 |[],_::_,_,h=>h.elim
 |_::_,[],_,h=>h.elim
theorem RVs.sub {G H:A9} (hs:G.sub H): ∀ {xs:List Sg} {vs:List Value},RVs G xs vs->RVs H xs vs
 |[],[],_=>trivial
 |x::xs,v::vs,h=>⟨RdD.sub hs _ _ _ h.1,RVs.sub hs h.2⟩
 |[],_::_,h=>h.elim
 |_::_,[],h=>h.elim
theorem RVv.sub {G H:A9} (hs:G.sub H) {r:RV} {v:Value} (h:RVv G r v):RVv H r v:=by
 obtain⟨a,xs⟩:=r
 cases a with
 |true=>obtain⟨vs,e,h⟩:=h;exact⟨vs,e,RVs.sub hs h⟩
 |false=>exact RVs.sub (vs:=[v]) hs h
theorem RVa.sub {G H:A9} (hs:G.sub H): ∀ {rs:List RV} {vs:List Value},RVa G rs vs->RVa H rs vs
 |[],[],_=>trivial
 |r::rs,v::vs,h=>⟨RVv.sub hs h.1,RVa.sub hs h.2⟩
 |[],_::_,h=>h.elim
 |_::_,[],h=>h.elim
theorem Of.sub {G H:A9} (hs:G.sub H) {rs:List RV} {v:Value} (h:Of G rs v):Of H rs v:=by
 match rs,h with
 |[],h=>obtain⟨vs,e,h⟩:=h;exact⟨vs,e,RVa.sub hs h⟩
 |[r],h=>exact RVv.sub hs h
 |r::s::t,h=>obtain⟨vs,e,h⟩:=h;exact⟨vs,e,RVa.sub hs h⟩
theorem RM.reBox1 {cx:Cx} {w:World} {g:Gh} {st:St} (m:RM cx g st w) {bs:List (Nat×List Cl)} (h: ∀k cs,Cr k bs=some cs->st.has k=true/\ ∃(vs:List Value) (e:TypeId),w.heap[g.B k]? =some (.cells vs.toArray e (0,0))/\CRs cx g st cs vs)
  (hh: ∀k,st.has k=true->(Cr k bs).isSome=true):RM cx g {st with boxes:=bs} w/\Ext g st g {st with boxes:=bs}:=by
 have hE:Ext g st g {st with boxes:=bs}:=⟨fun _ _ _ h=>h,fun _ _=>rfl,fun k hk=>hh k hk,fun _ h=>h,fun t ht _=>⟨ht,rfl,rfl,rfl,fun _ _ _=>rfl⟩⟩
 have hs: ∀k,({st with boxes:=bs}:St).has k=true->st.has k=true:=fun k hk=>by
  obtain⟨cs,hcs⟩:=Gd hk
  exact(h k cs hcs).1
 refine⟨⟨m.moved,m.lies,m.g0,m.old,fun k cs hk=>?_,fun i j hi hj=>m.inj i j (hs i hi) (hs j hj),fun k o hk=>m.boxG k o (hs k hk),m.tok,m.apart,fun t k ht hk=>m.tokBox t k ht (hs k hk),m.nodup,m.new⟩,hE⟩
 obtain⟨h1,vs,e,h2,h3⟩:=h k cs hk
 obtain⟨c0,hc0⟩:=Gd h1
 obtain⟨_,_,_,hm,_⟩:=m.box k c0 hc0
 exact⟨vs,e,h2,hm,h3.ext hE⟩
theorem Bqm {cx:Cx} {g:Gh} {st:St} {G:A9}: ∀ {new:List Sg} {vs:List Value},RVs G new vs->CRs cx g st (vs.map fun _=>(⟨.junk,(),.nil⟩:Cl)) vs
 |[],[],_=>trivial
 |x::xs,v::vs,h=>⟨⟨by simp only[RdD];exact Ja h.1,fun _ _ e=>by cases e⟩,Bqm h.2⟩
 |[],_::_,h=>h.elim
 |_::_,[],h=>h.elim
theorem A8i {cx:Cx} {g:Gh} {st:St} {pinned ro:Bool}: ∀ {cs cs':List Cl} {new:List Sg} {vs0 vs1:List Value},CRs cx g st cs vs0->RVs g.G new vs1->(ro=true->RVs cx.G0 new vs1)->merge pinned ro cs new=some cs'->
  (pinned=true-> ∀(j:Nat) (s:Sg),new[j]? =some s->Ep s.sh=true->vs1[j]? =vs0[j]?)->CRs cx g st cs' vs1
 |[],cs',[],vs0,vs1,h0,h1,_,h,_=>by
  simp[merge]at h;subst h
  cases vs1 with
  |nil=>trivial
  |cons _ _=>exact h1.elim
 |x::xs,cs',y::ys,vs0,vs1,h0,h1,h9,h,hp=>by
  simp only[merge]at h
  obtain⟨r,hr,h⟩:=Ah h
  cases vs0 with
  |nil=>exact h0.elim
  |cons v0 vs0=>
  cases vs1 with
  |nil=>exact h1.elim
  |cons v1 vs1=>
  have ih:=A8i h0.2 h1.2 (fun hq=>(h9 hq).2) hr (fun hpp j s hj hs=>by have:=hp hpp (j+1) s (by simpa using hj) hs;simpa using this)
  obtain⟨s,d⟩:=y
  cases s with
  |sl e cs=>
   simp only[Option.some.injEq]at h
   subst h
   cases pinned with
   |true=>
    have:=hp rfl 0 _ rfl rfl
    simp at this
    subst this
    exact⟨h0.1,ih⟩
   |false=>
    refine⟨⟨h1.1,?_⟩,ih⟩
    cases ro with
    |true=>exact(h9 rfl).1
    |false=>trivial
  |int k=>simp only[Option.some.injEq]at h;subst h;exact⟨⟨h1.1,fun _ _ e=>by cases e⟩,ih⟩
  |bool=>simp only[Option.some.injEq]at h;subst h;exact⟨⟨h1.1,fun _ _ e=>by cases e⟩,ih⟩
  |str=>simp only[Option.some.injEq]at h;subst h;exact⟨⟨h1.1,fun _ _ e=>by cases e⟩,ih⟩
  |junk=>simp only[Option.some.injEq]at h;subst h;exact⟨⟨h1.1,fun _ _ e=>by cases e⟩,ih⟩
 |[],_,_::_,_,_,_,_,_,h,_=>by simp[merge]at h
 |_::_,_,[],_,_,_,_,_,h,_=>by simp[merge]at h
section
variable {P:Program} {g:Cfg} (hC:CfgOk P g) {cx:Cx} {gh:Gh} {st:St} {a:Act} {w:World} {nt:Nat} (hM:RM cx gh st w) (hE:Env nt cx gh st a)
 {o:Oper} {ρ:Type} {k:PV->Ef->Option ρ} {r:ρ} {next:Act->World->Prop} {Q:Exit->Act->World->Prop}
 (hk: ∀pv ef,k pv ef=some r-> ∃st',ef.app o.dst st=some st')
 (hn: ∀gh' pv ef st' v w',k pv ef=some r->ef.app o.dst st=some st'->RM cx gh' st' w'->Ext gh st gh' st'->st'.env=st.env->VR cx gh' st' pv v->next (a.put o.dst v) w')
include hC hM hE hk hn
theorem Byv {f:FuncId} {as:Array Operand} {ts:Array TypeId} (ho:o.op= .call {callee:=.value (.func f),args:=as,argTypes:=ts}) (hkd:g.kind f= .plain) (h:(ob (args g.ty st as.toList ts.toList) fun vs=>(g.ctr f vs).run fun res=>
  ob o.dst fun n=>let x:=Dg (64*n) res.1
  k (Oe x.1) (.toks [] (List.range' (64*n) (x.2-64*n))))=some r):o.wp P a w next Q:=by
 obtain⟨vs,hvs,h⟩:=Ah h
 obtain⟨res,hres,h⟩:=Tree.run_some h
 obtain⟨n,hdn,h⟩:=Ah h
 have hargs:=A33 hE hvs
 have hdo:=hC.ctr f
 rw[hkd]at hdo
 have hcall:=hdo vs res (as.toList.map a.eval) w gh.G hres hM.lies (hM.tok0 fun _ _ h=>by cases h) hargs
 unfold Oper.wp
 rw[Uc ho (hC.fn f vs _ hres)]
 refine hcall.mono ?_
 rintro e w' ⟨v,f',rfl,hG,hl,hfr,hO⟩
 show next (a.put o.dst v) w'
 have M1:=hM.world hG
 have hfresh:Gn cx gh st f':=fun b ob hb=>by
  have hge:=hfr b ob hb
  obtain⟨a1,a2,a3⟩:=Es hM hge
  exact⟨a1,a2,a3,fun o'=>Vp hM.lies hge o'⟩
 obtain⟨st',hst⟩:=hk _ _ h
 obtain⟨e1,e2⟩:=Byu hst
 have hge:=Wp (64*n) res.1
 obtain⟨g2,M2,E2,C2⟩:=Bcd (n:=64*n) M1 hO hl hfresh (fun t t1 t2=>e2 t t1 (by omega))
 subst e1
 exact hn g2 _ _ _ v w' h hst M2 E2 rfl C2
theorem Byw {f:FuncId} {as:Array Operand} {ts:Array TypeId} (ho:o.op= .call {callee:=.value (.func f),args:=as,argTypes:=ts}) (hkd:g.kind f= .ret) (h:(ob (args g.ty st as.toList ts.toList) fun vs=>(g.ctr f vs).run fun res=>ob o.dst fun n=>match res.1 with
   |[(_,ss)]=>k (.box n 0) (.newBox (ss.map fun s=>⟨s.sh,s.val,Jq s.sh .rd⟩))
   |_=>none)=some r):o.wp P a w next Q:=by
 obtain⟨vs,hvs,h⟩:=Ah h
 obtain⟨res,hres,h⟩:=Tree.run_some h
 obtain⟨n,hdn,h⟩:=Ah h
 split at h
 .rename_i ag ss hr1
  have hargs:=A33 hE hvs
  have hdo:=hC.ctr f
  rw[hkd]at hdo
  have hcall:=hdo vs res (as.toList.map a.eval) w gh.G hres hM.lies (hM.tok0 fun _ _ h=>by cases h) hargs
  unfold Oper.wp
  rw[Uc ho (hC.fn f vs _ hres)]
  refine hcall.mono ?_
  rintro e w' ⟨b,us,ty,ag',rr,rfl,hG,hge,hblk,hr2,hcells⟩
  show next (a.put o.dst _) w'
  rw[hr1]at hr2
  simp only[List.cons.injEq,Prod.mk.injEq,and_true]at hr2
  obtain⟨rfl,rfl⟩:=hr2
  have M1:=hM.world hG
  obtain⟨st',hst⟩:=hk _ _ h
  obtain⟨hnew,hst2⟩:=Ab7 hdn hst
  obtain⟨a1,a2,a3⟩:=Es hM hge
  have hcr:CRs cx gh st (ss.map fun s=>⟨s.sh,s.val,Jq s.sh .rd⟩) us:=by
   clear h hres hr1 hst hst2 hblk
   induction ss generalizing us with
   |nil=>cases us with
    |nil=>trivial
    |cons _ _=>exact hcells.elim
   |cons s ss ih=>cases us with
    |nil=>exact hcells.elim
    |cons u us=>
     refine⟨⟨hcells.1,?_⟩,ih us hcells.2⟩
     obtain⟨s,d⟩:=s
     cases s<;>first|trivial|(intro _ _ e;cases e)
  obtain⟨M2,E2⟩:=M1.addBox hnew hblk hcr a1 a3 a2 (fun o=>Vp hM.lies hge o)
  subst hst2
  exact hn _ _ _ _ _ w' h hst M2 E2 rfl (show VR cx _ _ (.box n 0) _ from⟨by rw[Hk];simp,by simp⟩)
 .cases h
theorem Byx {f:FuncId} {as:Array Operand} {ts:Array TypeId} (ho:o.op= .call {callee:=.value (.func f),args:=as,argTypes:=ts}) (hkd:g.kind f= .view) (h:(ob (args g.ty st as.toList ts.toList) fun vs=>(g.ctr f vs).run fun res=>
  k (Oe (Bej res.1)) .none)=some r):o.wp P a w next Q:=by
 obtain⟨vs,hvs,h⟩:=Ah h
 obtain⟨res,hres,h⟩:=Tree.run_some h
 have hargs:=A33 hE hvs
 have hdo:=hC.ctr f
 rw[hkd]at hdo
 have hcall:=hdo vs res (as.toList.map a.eval) w gh.G hres hM.lies (hM.tok0 fun _ _ h=>by cases h) hargs
 unfold Oper.wp
 rw[Uc ho (hC.fn f vs _ hres)]
 refine hcall.mono ?_
 rintro e w' ⟨v,G',rfl,hG,hl,hsub,hnew,hR⟩
 show next (a.put o.dst v) w'
 obtain⟨M2,E2⟩:=(hM.world hG).viewed hM rfl (fun _ h=>h) hl hsub hnew
 exact hn _ _ _ _ v w' h rfl M2 E2 rfl (Bql hR)
theorem Byy {f:FuncId} {as:Array Operand} {ts:Array TypeId} {ms:List Nat} {pinned own:Bool} (ho:o.op= .call {callee:=.value (.func f),args:=as,argTypes:=ts}) (hkd:g.kind f= .box ms pinned own)
  (h:(ob (N8 g.ty st as.toList ts.toList) fun ps=>ob (D3 st ms ps) fun vs=>ob (Hu ms ps) fun b=>ob (st.bx b) fun cs=>(g.ctr f vs).run fun res=>
   match res.2 with
   |[(_,new)]=>ob (merge pinned (own && Bb6 cs ps) cs new) fun cs'=>ob o.dst fun n=>let x:=Dg (64*n) res.1
    k (cond own (Oe x.1) (Oe (Bej res.1))) (.bx b cs' (cond own (List.range' (64*n) (x.2-64*n)) []))
   |_=>none)=some r):o.wp P a w next Q:=by
 obtain⟨ps,hps,h⟩:=Ah h
 obtain⟨vs,hvs,h⟩:=Ah h
 obtain⟨b,hbx,h⟩:=Ah h
 obtain⟨cs,hcs,h⟩:=Ah h
 obtain⟨res,hres,h⟩:=Tree.run_some h
 split at h
 .rename_i ag new hr2
  obtain⟨cs',hmg,h⟩:=Ah h
  obtain⟨n,hdn,h⟩:=Ah h
  obtain⟨vs0,e0,k1,k2,k3⟩:=hM.box b cs hcs
  have hG9: ∃G9:A9,G9.sub gh.G/\(Bb6 cs ps=true->G9=cx.G0)/\BVa G9 (gh.B b) vs0 ms vs (as.toList.map a.eval):=by
   cases hro:Bb6 cs ps with
   |false=>exact⟨gh.G,fun _ _ _ h=>h,fun h=>(by cases h),Beo hcs k3 hbx (Ah6 hE hps) hvs⟩
   |true=>
    unfold Bb6 at hro
    simp only[Bool.and_eq_true]at hro
    exact⟨cx.G0,hM.g0,fun _=>rfl,Beo (g:=⟨cx.G0,gh.B,gh.F,gh.V,gh.S⟩) hcs (CRs.ro0 hro.1 k3) hbx (VRl.ro0 hro.2 (Ah6 hE hps)) hvs⟩
  obtain⟨G9,hG1,hG2,hbva⟩:=hG9
  have hdo:=hC.ctr f
  rw[hkd]at hdo
  have hcall:=hdo vs res (as.toList.map a.eval) w G9 (gh.B b) vs0 e0 hres (fun b o v h=>hM.lies b o v (hG1 b o v h)) (hM.tok0 fun c o hc=>by
   have hcb:=k2
   have e:c=gh.B b:=by
    simp only[Ac.one]at hc
    split at hc
    .rename_i q;exact q
    .cases hc
   rw[e];exact hcb) (fun o=>by
   cases hg9:G9 (gh.B b) o with
   |none=>rfl
   |some x=>have:=hG1 _ _ _ hg9;rw[hM.boxG b o (Gs hcs)]at this;cases this) k1 hbva
  unfold Oper.wp
  rw[Uc ho (hC.fn f vs _ hres)]
  refine hcall.mono ?_
  rintro e w' ⟨v,vs1,e1,ag',new',rfl,hmv,hown,hvw,hblk,hr2',hnew,hpin⟩
  show next (a.put o.dst v) w'
  rw[hr2]at hr2'
  simp only[List.cons.injEq,Prod.mk.injEq,and_true]at hr2'
  obtain⟨rfl,rfl⟩:=hr2'
  cases own with
  |true=>
  have hnew:=hnew rfl
  have hcr:=A8i k3 (RVs.sub hG1 hnew) (fun hq=>hG2 (by simpa using hq)▸hnew) hmg hpin
  obtain⟨M1,E1⟩:=hM.boxTurn hcs hmv hblk hcr
  obtain⟨f',hl,hfr,hO⟩:=hown rfl
  simp only[cond_true]at h
  obtain⟨st',hst⟩:=hk _ _ h
  have hst0:=hst
  obtain⟨_,_,hst0⟩:=Ah hst0
  obtain⟨u,hu1,hst0⟩:=Ah hst0
  obtain⟨b1,b2⟩:=I2 hu1
  subst b1
  simp only[Option.some.injEq]at hst0
  have hge:=Wp (64*n) res.1
  have hfresh:Gn cx gh {st with boxes:=(b,cs')::st.boxes} f':=fun c ob hb=>by
   have hge:=hfr c ob hb
   obtain⟨a1,a2,a3⟩:=Es hM hge
   refine⟨a1,a2,fun k hk=>a3 k ?_,fun o'=>Vp hM.lies hge o'⟩
   rw[Hk]at hk
   by_cases hkb:k=b
   .subst hkb;exact Gs hcs
   .simpa [hkb] using hk
  obtain⟨g2,M2,E2,C2⟩:=Bcd (n:=64*n) M1 hO hl hfresh (fun t t1 t2=>b2 t (List.mem_range'_1.2 ⟨t1,by omega⟩))
  subst hst0
  exact hn g2 _ _ _ v w' h hst M2 (E1.trans E2) rfl C2
  |false=>
  obtain⟨G2,hl2,hs2,hn2,hR,hnw⟩:=hvw rfl
  simp only[cond_false]at h
  obtain⟨M1,E1⟩:=hM.boxTurn hcs hmv hblk (Bqm hnw)
  have hag: ∀c o x y,gh.G c o=some x->G2 c o=some y->x=y:=fun c o x y h1 h2=>by
   have a1:=M1.lies c o x h1
   have a2:=hl2 c o y h2
   rw[a1]at a2;exact Option.some.inj a2
  have hs3:gh.G.sub fun c o=>(gh.G c o).or (G2 c o):=fun c o x hx=>by show(gh.G c o).or (G2 c o)=some x;rw[hx];rfl
  have hs4:G2.sub fun c o=>(gh.G c o).or (G2 c o):=fun c o y hy=>by
   cases hx:gh.G c o with
   |none=>show(gh.G c o).or (G2 c o)=some y;rw[hx];exact hy
   |some x=>show(gh.G c o).or (G2 c o)=some y;rw[hx,hag c o x y hx hy];rfl
  have hcase: ∀c o x,(gh.G c o).or (G2 c o)=some x->gh.G c o=some x\/(gh.G c o=none/\G2 c o=some x):=fun c o x hx=>by
   cases hg:gh.G c o with
   |none=>rw[hg]at hx;exact .inr ⟨rfl,hx⟩
   |some z=>rw[hg]at hx;exact .inl hx
  obtain⟨M2,E2⟩:=M1.viewed hM rfl (fun k hk=>by
   rw[Hk]at hk
   by_cases hkb:k=b
   .subst hkb;exact Gs hcs
   .simpa [hkb] using hk) (G':=fun c o=>(gh.G c o).or (G2 c o)) (fun c o x hx=>by
   rcases hcase c o x hx with q|⟨_,q⟩
   .exact M1.lies c o x q
   .exact hl2 c o x q) hs3 (fun c o x hx=>by
   rcases hcase c o x hx with q|⟨q0,q⟩
   .exact .inl q
   .rcases hn2 c o x q with q|q
    .have:=hG1 c o x q;rw[q0]at this;cases this
    .exact .inr q)
  have hcr:=A8i (k3.ext (E1.trans E2)) (RVs.sub hs4 hnw) (fun hq=>by cases hq) hmg hpin
  obtain⟨M3,E3⟩:=M2.reBox1 (bs:=(b,cs')::st.boxes) (fun k cs0 hk=>by
   by_cases hkb:k=b
   .subst hkb
    have:Cr k ((k,cs')::st.boxes)=some cs':=by simp[Cr]
    rw[this]at hk
    simp only[Option.some.injEq]at hk
    subst hk
    exact⟨by rw[Hk];simp,vs1,e1,hblk,hcr⟩
   .have hk2:st.bx k=some cs0:=by
     unfold St.bx
     have e0:Nat.beq k b=false:=by cases hq:Nat.beq k b with|false=>rfl|true=>exact(hkb (Nat.eq_of_beq_eq_true hq)).elim
     simpa [Cr,e0] using hk
    have hk3:({st with boxes:=(b,vs1.map fun _=>(⟨.junk,(),.nil⟩:Cl))::st.boxes}:St).bx k=some cs0:=by rw[Mo,if_neg hkb];exact hk2
    obtain⟨us,e2,z1,z2,z3⟩:=M2.box k cs0 hk3
    exact⟨Gs hk3,us,e2,z1,z3⟩) (fun k hk=>by
   rw[Hk]at hk
   by_cases hkb:k=b
   .subst hkb;simp[Cr]
   .have e0:Nat.beq k b=false:=by cases hq:Nat.beq k b with|false=>rfl|true=>exact(hkb (Nat.eq_of_beq_eq_true hq)).elim
    have:st.has k=true:=by simpa [hkb] using hk
    obtain⟨c0,hc0⟩:=Gd this
    unfold St.bx at hc0
    simp[Cr,e0,hc0])
  have hst:(Ef.bx b cs' []).app o.dst st=some {st with boxes:=(b,cs')::st.boxes}:=by
   simp only[Ef.app,hcs,Xw,ob];rfl
  exact hn _ _ _ _ v w' h hst M3 ((E1.trans E2).trans E3) rfl (Bql (Of.sub hs4 hR))
 .cases h
end
end
section

theorem RdD.scalar {G H:A9} {s:Sh} {d:s.den} {v:Value} (hs:Ep s=false) (h:RdD G s d v):RdD H s d v:=by
 cases s with
 |sl e cs=>cases hs
 |int k=>simpa only[RdD] using h
 |bool=>simpa only[RdD] using h
 |str=>simpa only[RdD] using h
 |junk=>simpa only[RdD] using h
theorem B2d {s:Sh} (hs:Ep s=false): ∀e cs,s≠ .sl e cs:=fun e cs he=>by rw[he]at hs;cases hs
theorem Amo {t:Nat} {s:Sg}: ∀ {us:List (Nat×Sg)},E6 t us=some s->(t,s)∈us
 |[],h=>by cases h
 |(u,x)::r,h=>by
  simp only[E6]at h
  cases hb:Nat.beq t u with
  |true=>
   rw[hb]at h
   simp at h;subst h
   rw[Nat.eq_of_beq_eq_true hb];simp
  |false=>
   rw[hb]at h
   exact List.mem_cons_of_mem _ (Amo h)
theorem Aw9 {t:Nat}: ∀ {us:List (Nat×Sg)},E6 t us=none-> ∀u,u∈us->u.1≠t
 |[],_,u,hu=>by cases hu
 |(v,x)::r,h,u,hu=>by
  simp only[E6]at h
  cases hb:Nat.beq t v with
  |true=>rw[hb]at h;cases h
  |false=>
   rw[hb]at h
   rcases List.mem_cons.1 hu with e|hu'
   .subst e
    intro he
    simp only at he
    rw[he]at hb
    rw[Nat.beq_refl]at hb;cases hb
   .exact Aw9 h u hu'
theorem Qd (f:List Cl->List Cl): ∀(l:List (Nat×List Cl)) (i:Nat),Cr i (l.map fun b=>(b.1,f b.2))=(Cr i l).map f
 |[],i=>rfl
 |(j,x)::r,i=>by
  simp only[List.map_cons,Cr]
  cases Nat.beq i j with
  |true=>rfl
  |false=>exact Qd f r i
theorem Ud (f:PV->PV) (hf:f .any= .any): ∀(e:List (Nat×PV)) (i:Nat),look i (e.map fun p=>(p.1,f p.2))=f (look i e)
 |[],i=>hf.symm
 |(j,x)::r,i=>by
  simp only[List.map_cons]
  rw[Dy,Dy]
  by_cases h:i=j
  .rw[if_pos h,if_pos h]
  .rw[if_neg h,if_neg h];exact Ud f hf r i
def J4 (st:St) (live:List Nat) (us:List (Nat×Sg)):St:=
 {env:=st.env.map fun p=>(p.1,Xb live us p.2),boxes:=st.boxes.map fun b=>(b.1,b.2.map (Ir live us)),live:=live,used:=st.used}
theorem Bwo (st:St) (live:List Nat) (us:List (Nat×Sg)) (i:Nat):(J4 st live us).get i=Xb live us (st.get i):=Ud _ rfl _ _
theorem Bms (st:St) (live:List Nat) (us:List (Nat×Sg)) (k:Nat):(J4 st live us).bx k=(st.bx k).map fun cs=>cs.map (Ir live us):=Qd _ _ _
theorem Qe (st:St) (live:List Nat) (us:List (Nat×Sg)) (k:Nat):(J4 st live us).has k=st.has k:=by unfold St.has;rw[Bms];simp
def Axa (cx:Cx) (live:List Nat) (F:Nat->Ac) (V:Nat->Value) (S:Nat->Nat) (b o:Nat) (x:Value):Prop:=
 cx.G0 b o=some x\/ ∃t,t∈live/\B9 (F t) b o=some x/\ ∀n cap,V t= .slice (some ⟨b,0,none⟩) n cap->o<n*S t
open Classical in
noncomputable def Et (cx:Cx) (live:List Nat) (F:Nat->Ac) (V:Nat->Value) (S:Nat->Nat):A9:=fun b o=>
 if h: ∃x,Axa cx live F V S b o x then some h.choose else none
theorem Jb {cx:Cx} {live:List Nat} {F:Nat->Ac} {V:Nat->Value} {S:Nat->Nat} {b o:Nat} {x:Value} (h:Et cx live F V S b o=some x):Axa cx live F V S b o x:=by
 unfold Et at h
 split at h
 .rename_i hx
  simp at h;subst h
  exact hx.choose_spec
 .cases h
theorem Ak4 {cx:Cx} {live:List Nat} {F:Nat->Ac} {V:Nat->Value} {S:Nat->Nat} {w:World} (hl: ∀b o x,Axa cx live F V S b o x->w.cell? ⟨b,o,none⟩=some x) {b o:Nat} {x:Value} (h:Axa cx live F V S b o x):Et cx live F V S b o=some x:=by
 unfold Et
 have hx: ∃x,Axa cx live F V S b o x:=⟨x,h⟩
 rw[dif_pos hx]
 have h1:=hl b o _ hx.choose_spec
 rw[hl b o x h]at h1
 rw[h1]
structure Turn (cx:Cx) (g:Gh) (st:St) (w w':World) (live':List Nat) (us:List (Nat×Sg)) (F':Nat->Ac):Prop where
 moved:Moved cx.f0 cx.w0 w'
 sub: ∀t,t∈live'->t∈st.live
 nodup:live'.Nodup
 keys: ∀u,u∈us->u.1∈live'
 keep: ∀t,t∈live'->E6 t us=none->F' t=g.F t/\Bu (g.F t) w'
 new: ∀t s,E6 t us=some s->Bu (F' t) w'/\(∀b o,F' t b=some o->Fu cx b)/\Bf (F' t) s.sh s.val (g.V t)/\Kr s.sh=g.S t/\Ep s.sh=true
 apart: ∀t u,t∈live'->u∈live'->t≠u->(F' t).apart (F' u)
 tokBox: ∀t k,t∈live'->st.has k=true->F' t (g.B k)=none
 box: ∀k,st.has k=true->w'.heap[g.B k]? =w.heap[g.B k]?
section
variable {cx:Cx} {g:Gh} {st:St} {w w':World} {live':List Nat} {us:List (Nat×Sg)} {F':Nat->Ac} (h:RM cx g st w) (T:Turn cx g st w w' live' us F')
include h T
theorem Turn.liesF {t:Nat} (ht:t∈live'):Bu (F' t) w'/\ ∀b o,F' t b=some o->Fu cx b:=by
 cases hu:E6 t us with
 |none=>
  obtain⟨h1,h2⟩:=T.keep t ht hu
  rw[h1]
  exact⟨h2,(h.tok t (T.sub t ht)).2.2⟩
 |some s=>obtain⟨h1,h2,_⟩:=T.new t s hu;exact⟨h1,h2⟩
theorem Turn.good: ∀b o x,Axa cx live' F' g.V g.S b o x->w'.cell? ⟨b,o,none⟩=some x:=by
 rintro b o x (hx|⟨t,ht,hx,_⟩)
 .obtain⟨h1,h2⟩:=h.old b o x hx
  have h3:=h.lies b o x (h.g0 _ _ _ hx)
  unfold World.cell? at h3 ⊢
  simp only at h3 ⊢
  rw[T.moved.block b h1 h2,<-h.moved.block b h1 h2]
  exact h3
 .exact Bu.cell (Turn.liesF h T ht).1 hx
theorem Turn.rd {t:Nat} (ht:t∈live') {s:Sh} {d:s.den} {v:Value} (hO:Bf (F' t) s d v) (hv:v=g.V t) (hz:Kr s=g.S t) (hs:Ep s=true):RdD (Et cx live' F' g.V g.S) s d v:=by
 refine Bf.rdIn s (F' t) d v _ hO (fun b o x hx hlt=>Ak4 (Turn.good h T) (.inr ⟨t,ht,hx,fun n cap hvt=>?_⟩))
 have:=hlt n cap (hv.trans hvt)
 rw[<-hz]
 cases s with
 |sl e cs=>exact this
 |_=>cases hs
theorem Turn.room {t:Nat} (ht:t∈live') {v:Value} (hv:v=g.V t) {z:Nat} (hz:z=g.S t) (hr: ∀b n cap,v= .slice (some ⟨b,0,none⟩) n cap->n<cap->(F' t b).isSome=true):Ua (Et cx live' F' g.V g.S) z v:=by
 intro b n cap hvb hc o ho
 cases hg:Et cx live' F' g.V g.S b o with
 |none=>rfl
 |some x=>
  exfalso
  have hb:=hr b n cap hvb hc
  obtain⟨ob,hob⟩:=Option.isSome_iff_exists.1 hb
  rcases Jb hg with hx|⟨u,hu,hx,hlt⟩
  .obtain⟨h1,h2⟩:=h.old b o x hx
   rcases(Turn.liesF h T ht).2 b ob hob with q|q
   .omega
   .rw[h2]at q;cases q
  .by_cases hut:u=t
   .subst hut
    have:=hlt n cap (hv.symm.trans hvb)
    rw[hz]at ho;omega
   .rcases T.apart t u ht hu (Ne.symm hut) b with q|q
    .rw[hob]at q;cases q
    .unfold B9 Ac.cell at hx;rw[q]at hx;cases hx
noncomputable def Turn.gh (g:Gh) (cx:Cx) (live':List Nat) (F':Nat->Ac):Gh:=⟨Et cx live' F' g.V g.S,g.B,F',g.V,g.S⟩
omit h T in
theorem Bep {g':Gh} {st':St} {G:A9} {s:Sh} {d:s.den} {v:Value} (hr:RdD G s d v):CR cx g' st' Afa v:=by
 refine⟨?_,fun e cs he=>(by cases he)⟩
 show RdD g'.G .junk () v
 simp only[RdD]
 exact Ja hr
theorem Turn.cl {x:Cl} {v:Value} (hx:CR cx g st x v):CR cx (Turn.gh g cx live' F') (J4 st live' us) (Ir live' us x) v:=by
 have hG0:cx.G0.sub (Et cx live' F' g.V g.S):=fun b o y hy=>Ak4 (Turn.good h T) (.inl hy)
 obtain⟨sh,val,tok⟩:=x
 obtain⟨h1,h2⟩:=hx
 have other:CR cx (Turn.gh g cx live' F') (J4 st live' us) (cond (Ep sh) Afa ⟨sh,val,.nil⟩) v:=by
  cases hs:Ep sh with
  |true=>exact Bep h1
  |false=>exact⟨RdD.scalar hs h1,fun e cs he=>(B2d hs e cs he).elim⟩
 cases tok with
 |ro=>exact⟨RdD.sub hG0 _ _ _ h2,h2⟩
 |pin j=>exact⟨RdD.sub hG0 _ _ _ h2.1,h2⟩
 |nil=>
  refine⟨?_,h2⟩
  cases hs:Ep sh with
  |false=>exact RdD.scalar hs h1
  |true=>
   cases sh with
   |sl e cs=>obtain⟨a,ha⟩:=h2 e cs rfl;exact A2z h1 ha _
   |_=>cases hs
 |own t=>
  simp only[Ir]
  cases hu:E6 t us with
  |some s=>
   simp only
   cases hb:Sh.beq sh s.sh with
   |false=>exact Bep h1
   |true=>
    have he:=Sh.eq_of_beq _ _ hb
    have ht:t∈live':=T.keys _ (Amo hu)
    obtain⟨q1,q2,q3,q4,q5⟩:=h2.2 (T.sub t ht)
    obtain⟨n1,n2,n3,n4,n5⟩:=T.new t s hu
    have n3':Bf (F' t) s.sh s.val v:=by rw[q3];exact n3
    exact⟨Turn.rd h T ht n3' q3 n4 n5,h2.1,fun _=>⟨n3',Turn.room h T ht q3 n4 (fun b n cap hv hc=>Bf.root n5 n3' hv hc),q3,n4,n5⟩⟩
  |none=>
   simp only
   cases hc:live'.contains t with
   |false=>exact other
   |true=>
    have ht:t∈live':=by simpa using hc
    obtain⟨q1,q2,q3,q4,q5⟩:=h2.2 (T.sub t ht)
    obtain⟨n1,n2⟩:=T.keep t ht hu
    have q1':Bf (F' t) sh val v:=by rw[n1];exact q1
    exact⟨Turn.rd h T ht q1' q3 q4 q5,h2.1,fun _=>⟨q1',Turn.room h T ht q3 q4 (fun b n cap hv hc=>Bf.root q5 q1' hv hc),q3,q4,q5⟩⟩
 |rd=>exact other
 |row t=>exact other
 |elt t e cs l i d j=>exact other
 |bag t lo=>exact other
 |one s i t=>exact other
 |nst t=>exact other
 |grd t=>
  simp only[Ir]
  cases hu:E6 t us with
  |some s=>exact other
  |none=>
   simp only
   cases hc:live'.contains t with
   |false=>exact other
   |true=>
    have ht:t∈live':=by simpa using hc
    obtain⟨q1,q2⟩:=h2.2 (T.sub t ht)
    obtain⟨n1,n2⟩:=T.keep t ht hu
    have q1':RdD (B9 (F' t)) sh val v:=by rw[n1];exact q1
    refine⟨RdD.sub (fun b o x hx=>Ak4 (Turn.good h T) (.inr ⟨t,ht,hx,fun n cap hvt=>?_⟩)) _ _ _ q1',h2.1,fun _=>⟨q1',q2⟩⟩
    rw[q2]at hvt;cases hvt
 |prt t e cs l lo=>exact other
theorem Turn.cls: ∀ {xs:List Cl} {vs:List Value},CRs cx g st xs vs->CRs cx (Turn.gh g cx live' F') (J4 st live' us) (xs.map (Ir live' us)) vs
 |[],[],_=>trivial
 |x::xs,v::vs,hx=>⟨Turn.cl h T hx.1,Turn.cls hx.2⟩
 |[],_::_,hx=>hx.elim
 |_::_,[],hx=>hx.elim
theorem Turn.vv {a:Bool} {xs:List Cl} {v:Value} (hx:VRv cx g st a xs v):VRv cx (Turn.gh g cx live' F') (J4 st live' us) a (xs.map (Ir live' us)) v:=by
 cases a with
 |true=>obtain⟨vs,e,hx⟩:=hx;exact⟨vs,e,Turn.cls h T hx⟩
 |false=>exact Turn.cls h T (xs:=xs) (vs:=[v]) hx
theorem Turn.vt: ∀ {l:List (Bool×List Cl)} {vs:List Value},VRt cx g st l vs->VRt cx (Turn.gh g cx live' F') (J4 st live' us) (l.map fun x=>(x.1,x.2.map (Ir live' us))) vs
 |[],[],_=>trivial
 |x::xs,v::vs,hx=>⟨Turn.vv h T hx.1,Turn.vt hx.2⟩
 |[],_::_,hx=>hx.elim
 |_::_,[],hx=>hx.elim
theorem Turn.el: ∀ {xs:List Cl} {b o:Nat},ElR cx g st true xs b o->ElR cx (Turn.gh g cx live' F') (J4 st live' us) true (xs.map (Ir live' us)) b o
 |[],_,_,_=>trivial
 |x::xs,b,o,⟨⟨u,h1,h2⟩,h3⟩=>⟨⟨u,h1,Turn.cl h T h2⟩,Turn.el h3⟩
theorem Turn.v {p:PV} {v:Value} (hx:VR cx g st p v):VR cx (Turn.gh g cx live' F') (J4 st live' us) (Xb live' us p) v:=by
 cases p with
 |any=>trivial
 |v a xs=>exact Turn.vv h T hx
 |box b off=>exact⟨by rw[Qe];exact hx.1,hx.2⟩
 |tup l=>obtain⟨vs,e,hx⟩:=hx;exact⟨vs,e,Turn.vt h T hx⟩
 |el p ro xs=>
  cases ro with
  |false=>trivial
  |true=>obtain⟨b,o,e,hx,_⟩:=hx;exact⟨b,o,e,Turn.el h T hx,trivial⟩
theorem Turn.rm:RM cx (Turn.gh g cx live' F') (J4 st live' us) w':=by
 refine⟨T.moved,fun b o x hx=>Turn.good h T b o x (Jb hx),fun b o y hy=>Ak4 (Turn.good h T) (.inl hy),h.old,?_,?_,?_,?_,T.apart,?_,T.nodup,?_⟩
 .intro k cs hk
  rw[Bms]at hk
  cases hb:st.bx k with
  |none=>rw[hb]at hk;cases hk
  |some c0=>
   rw[hb]at hk
   simp at hk;subst hk
   obtain⟨vs,e,h1,h2,h3⟩:=h.box k c0 hb
   exact⟨vs,e,by rw[<-h1];exact T.box k (Gs hb),h2,Turn.cls h T h3⟩
 .intro i j hi hj;rw[Qe]at hi hj;exact h.inj i j hi hj
 .intro k o hk
  rw[Qe]at hk
  cases hg:Et cx live' F' g.V g.S (g.B k) o with
  |none=>exact hg
  |some x=>
   exfalso
   rcases Jb hg with hx|⟨u,hu,hx,hlt⟩
   .have:=h.g0 _ _ _ hx
    rw[h.boxG k o hk]at this;cases this
   .unfold B9 Ac.cell at hx;rw[T.tokBox u k hu hk]at hx;cases hx
 .intro t ht
  obtain⟨h1,h2⟩:=Turn.liesF h T ht
  exact⟨(h.tok t (T.sub t ht)).1,h1,h2⟩
 .intro t k ht hk;rw[Qe]at hk;exact T.tokBox t k ht hk
 .intro b o x hx
  rcases Jb hx with hx|⟨u,hu,hx,_⟩
  .exact .inl hx
  .right
   unfold B9 Ac.cell at hx
   cases hf:F' u b with
   |none=>rw[hf]at hx;cases hx
   |some ob=>exact(Turn.liesF h T hu).2 b ob hf
theorem Turn.env {nt:Nat} {a:Act} (hE:Env nt cx g st a):Env nt cx (Turn.gh g cx live' F') (J4 st live' us) a:=
 ⟨hE.1,hE.2.1,fun i=>by rw[Bwo];exact Turn.v h T (hE.2.2.1 i),hE.2.2.2⟩
end
end
section

theorem Aen {α:Type} {L vals:List α} {o:Nat} (h:o+vals.length<=L.length) (k:Nat):(Bn L o vals)[k]? =if k<o then L[k]? else if k<o+vals.length then vals[k-o]? else L[k]? :=by
 unfold Bn
 by_cases h1:k<o
 .rw[if_pos h1,List.append_assoc,List.getElem?_append_left (by simp;omega),List.getElem?_take,if_pos h1]
 .rw[if_neg h1]
  by_cases h2:k<o+vals.length
  .rw[if_pos h2,List.getElem?_append_left (by simp;omega),List.getElem?_append_right (by simp;omega)]
   congr 1;simp;omega
  .rw[if_neg h2,List.getElem?_append_right (by simp;omega),List.getElem?_drop]
   congr 1;simp;omega
theorem Wq {α:Type} {L vals:List α} {o:Nat} (h:o+vals.length<=L.length):(Bn L o vals).length=L.length:=by
 unfold Bn;simp;omega
theorem Ar5 {sz i off:Nat} {css:List (List Value)} (hall: ∀c∈css,c.length=sz) {c vals:List Value} (hc:css[i]? =some c) (hfit:off+vals.length<=sz):
  (css.set i (Bn c off vals)).flatten=Bn css.flatten (i*sz+off) vals:=by
 have hcl:c.length=sz:=hall c (List.mem_of_getElem? hc)
 have hil:i<css.length:=(List.getElem?_eq_some_iff.1 hc).1
 have hall': ∀x∈css.set i (Bn c off vals),x.length=sz:=fun x hx=>by
  rcases List.mem_or_eq_of_mem_set hx with h|h
  .exact hall x h
  .rw[h,Wq (by omega)];exact hcl
 have hL:css.flatten.length=css.length*sz:=Fg hall
 have hle:i*sz+sz<=css.length*sz:=by rw[<-Nat.succ_mul];exact Nat.mul_le_mul_right _ hil
 apply List.ext_getElem?
 intro k
 rw[Aen (by rw[hL];omega)]
 rcases Nat.lt_or_ge k (css.length*sz)with hk|hk
 .have hsz:0<sz:=by
   rcases Nat.eq_zero_or_pos sz with h|h
   .rw[h]at hk;omega
   .exact h
  have h1:k/sz<css.length:=Nat.div_lt_of_lt_mul (by rw[Nat.mul_comm];exact hk)
  have h2:k%sz<sz:=Nat.mod_lt _ hsz
  have hkd:k/sz*sz+k%sz=k:=by rw[Nat.mul_comm];exact Nat.div_add_mod k sz
  have hold:=Ft hall (List.getElem?_eq_getElem h1) h2
  rw[hkd]at hold
  by_cases hi:k/sz=i
  .have hnew:=Ft hall' (i:=k/sz) (j:=k%sz) (c:=Bn c off vals) (by rw[hi,List.getElem?_set_self hil]) h2
   rw[hkd]at hnew
   have hold':=Ft hall hc h2
   have hkd':i*sz+k%sz=k:=by rw[<-hi];exact hkd
   rw[hkd']at hold'
   rw[hnew,Aen (by omega),hold']
   clear hnew hold hold'
   generalize k%sz=q at*
   generalize i*sz=m at*
   by_cases a1:q<off
   .have a3:k<m+off:=by omega
    simp only[a1,a3,if_true]
   .have a3: ¬k<m+off:=by omega
    simp only[a1,a3,if_false]
    by_cases a2:q<off+vals.length
    .have a4:k<m+off+vals.length:=by omega
     simp only[a2,a4,if_true]
     congr 1;omega
    .have a4: ¬k<m+off+vals.length:=by omega
     simp only[a2,a4,if_false]
  .have hnew:=Ft hall' (i:=k/sz) (j:=k%sz) (c:=css[k/sz]) (by rw[List.getElem?_set_ne (Ne.symm hi)];exact List.getElem?_eq_getElem h1) h2
   rw[hkd]at hnew
   rw[hnew,hold]
   rcases Nat.lt_or_gt_of_ne hi with hlt|hgt
   .have:(k/sz)*sz+sz<=i*sz:=by rw[<-Nat.succ_mul];exact Nat.mul_le_mul_right _ hlt
    rw[if_pos (by omega)]
   .have:i*sz+sz<=(k/sz)*sz:=by rw[<-Nat.succ_mul];exact Nat.mul_le_mul_right _ hgt
    rw[if_neg (by omega),if_neg (by omega)]
 .rw[List.getElem?_eq_none (by rw[Fg hall'];simpa using hk),if_neg (by omega),if_neg (by omega),List.getElem?_eq_none (by rw[hL];exact hk)]
theorem A22 {α:Type} {L vals:List α} {o m:Nat} (h:o+vals.length<=m) (hm:m<=L.length):(Bn L o vals).take m=Bn (L.take m) o vals:=by
 apply List.ext_getElem?
 intro k
 rw[List.getElem?_take,Aen (by omega),Aen (by simp;omega),List.getElem?_take]
 by_cases hk:k<m
 .simp only[hk,if_true]
 .rw[if_neg hk,if_neg hk,if_neg (by omega),if_neg (by omega)]
theorem Aeo {α:Type} (c:List α) (off:Nat):Bn c off []=c:=by unfold Bn;simp
theorem By.set: ∀ {cs:List Sh} {h f:Ac} {d d':dens cs} {c vals:List Value} {xs:List Cl} {off:Nat},By h cs d c->OCs f xs vals->Ma cs d off xs=some d'->h.apart f->By (h.join f) cs d' (Bn c off vals)
 |[],h,f,d,d',c,vals,xs,off,h1,h2,h3,h4=>by
  cases xs with
  |nil=>
   cases vals with
   |nil=>rw[Aeo];simp only[By]at h1 ⊢;exact h1
   |cons _ _=>exact h2.elim
  |cons _ _=>simp[Ma]at h3
 |s::r,h,f,d,d',c,vals,[],off,h1,h2,h3,h4=>by
  cases vals with
  |cons _ _=>exact h2.elim
  |nil=>
   rw[Aeo]
   simp[Ma]at h3;subst h3
   exact h1.sub (Ac.sub_join_left _ _)
 |s::r,h,f,d,d',c,vals,x::xs,0,h1,h2,h3,h4=>by
  cases vals with
  |nil=>exact h2.elim
  |cons v vs=>
   obtain⟨g1,g2,hp,ho,hr⟩:=h2
   simp only[Ma]at h3
   obtain⟨a,ha,h3⟩:=Ah h3
   obtain⟨e,he,h3⟩:=Ah h3
   simp at h3;subst h3
   simp only[By]at h1 ⊢
   obtain⟨v0,t,p,q,rfl,hp2,k1,k2⟩:=h1
   have a1:g1.sub f:=hp.2 g1 (by simp)
   have a2:g2.sub f:=hp.2 g2 (by simp)
   have b1:p.sub h:=hp2.2 p (by simp)
   have b2:q.sub h:=hp2.2 q (by simp)
   have ih:=By.set (off:=0) k2 hr he (Ac.apart_sub h4 b2 a2)
   refine⟨v,Bn t 0 vs,g1,q.join g2,by simp[Bn],⟨List.pairwise_cons.2 ⟨fun z hz=>?_,List.pairwise_singleton _ _⟩,fun z hz=>?_⟩,?_,ih⟩
   .simp at hz;subst hz
    exact Ac.apart_join (Ac.apart_symm (Ac.apart_sub h4 b2 a1)) ((List.pairwise_cons.1 hp.1).1 g2 (by simp))
   .simp at hz
    rcases hz with rfl|rfl
    .exact Ac.sub_trans a1 (Ac.sub_join_right h4)
    .exact Ac.join_sub (Ac.sub_trans b2 (Ac.sub_join_left _ _)) (Ac.sub_trans a2 (Ac.sub_join_right h4))
   .obtain⟨e1,e2⟩:=A20 ha
    obtain⟨sh,val,tok⟩:=x
    simp only at e1;subst e1
    rw[e2];exact ho
 |s::r,h,f,d,d',c,vals,x::xs,n+1,h1,h2,h3,h4=>by
  simp only[Ma]at h3
  obtain⟨e,he,h3⟩:=Ah h3
  simp at h3;subst h3
  simp only[By]at h1 ⊢
  obtain⟨v0,t,p,q,rfl,hp2,k1,k2⟩:=h1
  have b1:p.sub h:=hp2.2 p (by simp)
  have b2:q.sub h:=hp2.2 q (by simp)
  have ih:=By.set (off:=n) k2 h2 he (Ac.apart_sub h4 b2 (Ac.sub_refl _))
  refine⟨v0,Bn t n vals,p,q.join f,?_,⟨List.pairwise_cons.2 ⟨fun z hz=>?_,List.pairwise_singleton _ _⟩,fun z hz=>?_⟩,k1,ih⟩
  .unfold Bn
   rw[show n+1+vals.length=(n+vals.length)+1 by omega]
   simp
  .simp at hz;subst hz
   exact Ac.apart_join ((List.pairwise_cons.1 hp2.1).1 q (by simp)) (Ac.apart_sub h4 b1 (Ac.sub_refl _))
  .simp at hz
   rcases hz with rfl|rfl
   .exact Ac.sub_trans b1 (Ac.sub_join_left _ _)
   .exact Ac.join_sub (Ac.sub_trans b2 (Ac.sub_join_left _ _)) (Ac.sub_join_right h4)
theorem Bhi {r:Ac} {hs:List Ac} {i:Nat} {h h':Ac} (hp:(r::hs).Pairwise Ac.apart) (hi:hs[i]? =some h) {r':Ac} (hr: ∀k,(r' k).isSome=true->(r k).isSome=true) (hh: ∀x,x∈r::hs->x≠h->True)
  (hap: ∀j x,hs[j]? =some x->j≠i->x.apart h') (hrh:r'.apart h'):(r'::hs.set i h').Pairwise Ac.apart:=by
 refine List.pairwise_cons.2 ⟨fun x hx=>?_,?_⟩
 .rcases List.mem_or_eq_of_mem_set hx with h1|h1
  .intro k
   rcases(List.pairwise_cons.1 hp).1 x h1 k with q|q
   .left
    cases e:r' k with
    |none=>rfl
    |some o=>have:=hr k (by rw[e];rfl);rw[q]at this;cases this
   .exact .inr q
  .rw[h1];exact hrh
 .have hpw:=(List.pairwise_cons.1 hp).2
  rw[List.pairwise_iff_getElem]at hpw ⊢
  intro a b ha hb hab
  simp only[List.length_set]at ha hb
  simp only[List.getElem_set]
  by_cases h1:i=a
  .by_cases h2:i=b
   .omega
   .rw[if_pos h1,if_neg h2]
    exact Ac.apart_symm (hap b _ (List.getElem?_eq_getElem hb) (fun e=>h2 e.symm))
  .by_cases h2:i=b
   .rw[if_neg h1,if_pos h2]
    exact hap a _ (List.getElem?_eq_getElem ha) (fun e=>h1 e.symm)
   .rw[if_neg h1,if_neg h2];exact hpw a b ha hb hab
theorem Axb {r:Ac} {hs:List Ac} (hp:(r::hs).Pairwise Ac.apart) {i j:Nat} {x y:Ac} (hi:hs[i]? =some x) (hj:hs[j]? =some y) (hne:j≠i):y.apart x:=by
 have hpw:=(List.pairwise_cons.1 hp).2
 rw[List.pairwise_iff_getElem]at hpw
 obtain⟨ha,ea⟩:=List.getElem?_eq_some_iff.1 hi
 obtain⟨hb,eb⟩:=List.getElem?_eq_some_iff.1 hj
 subst ea eb
 rcases Nat.lt_or_gt_of_ne hne with q|q
 .exact hpw j i hb ha q
 .exact Ac.apart_symm (hpw i j ha hb q)
theorem Cd.set {α:Type} {sz:Nat} {own:Ac->List Value->α->Prop} {hs:List Ac} {css:List (List Value)} {l:List α} (h:Cd sz own hs css l) {i:Nat} {g:Ac} {c:List Value} {a:α} (hc:c.length=sz) (ho:own g c a) (hi:i<l.length):
  Cd sz own (hs.set i g) (css.set i c) (l.set i a):=by
 refine⟨by simp[h.1],by simp[h.2.1],fun j h' c' a' e1 e2 e3=>?_⟩
 by_cases hj:i=j
 .subst hj
  rw[List.getElem?_set_self (by rw[h.2.1];exact hi)]at e1
  rw[List.getElem?_set_self (by rw[h.1];exact hi)]at e2
  rw[List.getElem?_set_self hi]at e3
  cases e1;cases e2;cases e3
  exact⟨hc,ho⟩
 .rw[List.getElem?_set_ne hj]at e1 e2 e3
  exact h.2.2 j h' c' a' e1 e2 e3
theorem Bf.setElem {F:Ac} {e:Nat} {cs:List Sh} {l:List (dens cs)} {v:Value} {i:Nat} {d:dens cs} (hO:Bf F (.sl e cs) l v) (hd:l[i]? =some d) {f:Ac} {xs:List Cl} {vals:List Value} {off:Nat} {d':dens cs}
  (hx:OCs f xs vals) (hs:Ma cs d off xs=some d') (hap:F.apart f) (hfit:off+vals.length<=cs.length):
  ∃b n cap cur,v= .slice (some ⟨b,0,none⟩) n cap/\F b=some (.cells cur e (0,0))/\i*cs.length+off+vals.length<=cur.size/\
   Bf ((Ac.one b (.cells (Bn cur.toList (i*cs.length+off) vals).toArray e (0,0))).join (F.join f)) (.sl e cs) (l.set i d') v:=by
 simp only[Bf]at hO ⊢
 obtain⟨css,r,hss,hrow,hp,hel⟩:=hO
 have hi:i<l.length:=(List.getElem?_eq_some_iff.1 hd).1
 obtain⟨hl,⟨⟨a',hE⟩,hz⟩|⟨b,cap,cur,hE,hg,hnc,hcm,hsz,htk⟩⟩:=hrow
 .omega
 have hic:i<css.length:=by rw[hel.1];exact hi
 have hih:i<hss.length:=by rw[hel.2.1];exact hi
 obtain⟨hclen,hown⟩:=hel.2.2 i _ _ d (List.getElem?_eq_getElem hih) (List.getElem?_eq_getElem hic) hd
 have hFb:F b=some (.cells cur e (0,0)):=hp.2 r (by simp) _ _ hg
 have hfb:f b=none:=(hap b).resolve_left (by rw[hFb];simp)
 have hle:i*cs.length+cs.length<=l.length*cs.length:=by rw[<-Nat.succ_mul];exact Nat.mul_le_mul_right _ hi
 have hlc:l.length*cs.length<=cap*cs.length:=Nat.mul_le_mul_right _ hnc
 have hnew:=By.set hown hx hs (Ac.apart_sub hap (hp.2 _ (by simp[List.getElem_mem])) (Ac.sub_refl _))
 refine⟨b,_,cap,cur,hE,hFb,by omega,css.set i (Bn css[i] off vals),Ac.one b (.cells (Bn cur.toList (i*cs.length+off) vals).toArray e (0,0)),hss.set i (hss[i].join f),?_,⟨?_,?_⟩,?_⟩
 .rw[List.length_set,Ar5 hel.len (List.getElem?_eq_getElem hic) hfit]
  refine⟨by rw[Wq (by rw[hl];omega),hl],.inr ⟨b,cap,_,hE,Qx _ _,hnc,hcm,?_,?_⟩⟩
  .simp only[List.size_toArray]
   rw[Wq (by simp;omega)]
   simpa using hsz
  .rw[<-htk]
   exact A22 (by omega) (by simp;omega)
 .refine Bhi hp.1 (List.getElem?_eq_getElem hih) (fun k hk=>?_) (fun _ _ _=>trivial) (fun j x hj hne=>Ac.apart_join (Axb hp.1 (List.getElem?_eq_getElem hih) hj hne) (Ac.apart_sub hap (hp.2 _ (by simp[List.mem_of_getElem? hj])) (Ac.sub_refl _))) (fun k=>?_)
  .simp only[Ac.one]at hk
   split at hk
   .rename_i e;rw[e,hg];rfl
   .cases hk
  .simp only[Ac.one,Ac.join]
   by_cases hk:k=b
   .right
    subst hk
    rcases(List.pairwise_cons.1 hp.1).1 hss[i] (List.getElem_mem hih) k with q|q
    .rw[hg]at q;cases q
    .simp[q,hfb]
   .left;simp[hk]
 .intro x hx'
  rcases List.mem_cons.1 hx' with e1|hx'
  .subst e1;exact Ac.sub_join_left _ _
  .have hb0:x b=none:=by
    rcases List.mem_or_eq_of_mem_set hx' with h1|h1
    .rcases(List.pairwise_cons.1 hp.1).1 x h1 b with q|q
     .rw[hg]at q;cases q
     .exact q
    .rw[h1]
     rcases(List.pairwise_cons.1 hp.1).1 hss[i] (List.getElem_mem hih) b with q|q
     .rw[hg]at q;cases q
     .simp[Ac.join,q,hfb]
   have hsub:x.sub (F.join f):=by
    rcases List.mem_or_eq_of_mem_set hx' with h1|h1
    .exact Ac.sub_trans (hp.2 x (by simp[h1])) (Ac.sub_join_left _ _)
    .rw[h1]
     exact Ac.join_sub (Ac.sub_trans (hp.2 _ (by simp[List.getElem_mem])) (Ac.sub_join_left _ _)) (Ac.sub_join_right hap)
   intro k o hk
   have hne:k≠b:=fun e=>by rw[e,hb0]at hk;cases hk
   have:=hsub k o hk
   simp only[Ac.join,Ac.one,hne,if_false]
   simpa [Ac.join] using this
 .exact hel.set (by rw[Wq (by omega)];exact hclen) hnew hi
def Ac.less (f g:Ac):Ac:=fun k=>if (g k).isSome=true then none else f k
theorem Ac.less_sub (f g:Ac):(f.less g).sub f:=fun k o h=>by
 unfold Ac.less at h
 split at h
 .cases h
 .exact h
theorem Ac.less_apart (f g:Ac):(f.less g).apart g:=fun k=>by
 unfold Ac.less
 cases e:g k with
 |none=>exact .inr rfl
 |some o=>left;simp
theorem Xy {f g h:Ac} (hs:h.sub f) (ha:h.apart g):h.sub (f.less g):=fun k o hk=>by
 unfold Ac.less
 rw[if_neg]
 .exact hs k o hk
 .intro hg
  rcases ha k with q|q
  .rw[hk]at q;cases q
  .rw[q]at hg;cases hg
theorem By.focus: ∀ {cs:List Sh} {h:Ac} {d:dens cs} {c:List Value} {j:Nat} {x:Sg},By h cs d c->D4 cs d j=some x->
  ∃g v,c[j]? =some v/\g.sub h/\Bf g x.sh x.val v/\ ∀(g':Ac) (y:Sg) (d':dens cs),(h.less g).apart g'->Bf g' y.sh y.val v->Ma cs d j [⟨y.sh,y.val,.nil⟩]=some d'->By ((h.less g).join g') cs d' c
 |[],h,d,c,j,x,_,hx=>by simp[D4]at hx
 |s::r,h,d,c,0,x,h1,hx=>by
  simp only[D4,Option.some.injEq]at hx
  subst hx
  simp only[By]at h1
  obtain⟨v,t,p,q,rfl,hp,k1,k2⟩:=h1
  refine⟨p,v,rfl,hp.2 p (by simp),k1,fun g' y d' ha ho hs=>?_⟩
  simp only[Ma]at hs
  obtain⟨a,hae,hs⟩:=Ah hs
  obtain⟨e,he,hs⟩:=Ah hs
  simp at he hs
  subst he;subst hs
  simp only[By]
  have hq:q.sub (h.less p):=Xy (hp.2 q (by simp)) (Ac.apart_symm ((List.pairwise_cons.1 hp.1).1 q (by simp)))
  refine⟨v,t,g',q,rfl,⟨List.pairwise_cons.2 ⟨fun z hz=>?_,List.pairwise_singleton _ _⟩,fun z hz=>?_⟩,?_,k2⟩
  .simp at hz;subst hz
   exact Ac.apart_symm (Ac.apart_sub ha hq (Ac.sub_refl _))
  .simp at hz
   rcases hz with rfl|rfl
   .exact Ac.sub_join_right ha
   .exact Ac.sub_trans hq (Ac.sub_join_left _ _)
  .obtain⟨e1,e2⟩:=A20 hae
   obtain⟨sh,val⟩:=y
   simp only at e1;subst e1
   rw[e2];exact ho
 |s::r,h,d,c,j+1,x,h1,hx=>by
  simp only[D4]at hx
  simp only[By]at h1
  obtain⟨v0,t,p,q,rfl,hp,k1,k2⟩:=h1
  obtain⟨g,v,f1,f2,f3,f4⟩:=By.focus k2 hx
  have hpq:p.apart q:=(List.pairwise_cons.1 hp.1).1 q (by simp)
  have hqh:q.sub h:=hp.2 q (by simp)
  refine⟨g,v,by simpa using f1,Ac.sub_trans f2 hqh,f3,fun g' y d' ha ho hs=>?_⟩
  simp only[Ma]at hs
  obtain⟨e,he,hs⟩:=Ah hs
  simp at hs;subst hs
  have hql:(q.less g).sub (h.less g):=Xy (Ac.sub_trans (Ac.less_sub _ _) hqh) (Ac.less_apart _ _)
  have hpl:p.sub (h.less g):=Xy (hp.2 p (by simp)) (Ac.apart_sub hpq (Ac.sub_refl _) f2)
  have ih:=f4 g' y e (Ac.apart_sub ha hql (Ac.sub_refl _)) ho he
  simp only[By]
  refine⟨v0,t,p,(q.less g).join g',rfl,⟨List.pairwise_cons.2 ⟨fun z hz=>?_,List.pairwise_singleton _ _⟩,fun z hz=>?_⟩,k1,ih⟩
  .simp at hz;subst hz
   exact Ac.apart_join (Ac.apart_sub hpq (Ac.sub_refl _) (Ac.less_sub _ _)) (Ac.apart_sub ha hpl (Ac.sub_refl _))
  .simp at hz
   rcases hz with rfl|rfl
   .exact Ac.sub_trans hpl (Ac.sub_join_left _ _)
   .exact Ac.join_sub (Ac.sub_trans hql (Ac.sub_join_left _ _)) (Ac.sub_join_right ha)
theorem Bf.focus {F:Ac} {e:Nat} {cs:List Sh} {l:List (dens cs)} {v:Value} {i j:Nat} {d:dens cs} {x:Sg} (hO:Bf F (.sl e cs) l v) (hd:l[i]? =some d) (hx:D4 cs d j=some x):
  ∃g u b n cap,v= .slice (some ⟨b,0,none⟩) n cap/\F.cell b (i*cs.length+j)=some u/\g.sub F/\Bf g x.sh x.val u/\
   ∀(g':Ac) (y:Sg) (d':dens cs),(F.less g).apart g'->Bf g' y.sh y.val u->Ma cs d j [⟨y.sh,y.val,.nil⟩]=some d'->Bf ((F.less g).join g') (.sl e cs) (l.set i d') v:=by
 simp only[Bf]at hO
 obtain⟨css,r,hss,hrow,hp,hel⟩:=hO
 have hi:i<l.length:=(List.getElem?_eq_some_iff.1 hd).1
 have hrow0:=hrow
 obtain⟨hl,⟨⟨a',hE⟩,hz⟩|⟨b,cap,cur,hE,hg,hnc,hcm,hsz,htk⟩⟩:=hrow
 .omega
 have hic:i<css.length:=by rw[hel.1];exact hi
 have hih:i<hss.length:=by rw[hel.2.1];exact hi
 obtain⟨hclen,hown⟩:=hel.2.2 i _ _ d (List.getElem?_eq_getElem hih) (List.getElem?_eq_getElem hic) hd
 obtain⟨g,u,f1,f2,f3,f4⟩:=hown.focus hx
 have hsubi:hss[i].sub F:=hp.2 _ (by simp[List.getElem_mem])
 have hj:j<cs.length:=by have:=(List.getElem?_eq_some_iff.1 f1).1;omega
 refine⟨g,u,b,_,cap,hE,?_,Ac.sub_trans f2 hsubi,f3,fun g' y d' ha ho hs=>?_⟩
 .unfold Ac.cell
  rw[hp.2 r (by simp) _ _ hg]
  have h1:=Ft hel.len (List.getElem?_eq_getElem hic) hj
  rw[f1,<-htk,List.getElem?_take]at h1
  split at h1
  .simpa using h1
  .cases h1
 .have hil:(hss[i].less g).sub (F.less g):=Xy (Ac.sub_trans (Ac.less_sub _ _) hsubi) (Ac.less_apart _ _)
  have hnew:=f4 g' y d' (Ac.apart_sub ha hil (Ac.sub_refl _)) ho hs
  have hri:r.apart hss[i]:=(List.pairwise_cons.1 hp.1).1 _ (List.getElem_mem hih)
  have hrl:r.sub (F.less g):=Xy (hp.2 r (by simp)) (Ac.apart_sub hri (Ac.sub_refl _) f2)
  simp only[Bf]
  refine⟨css,r,hss.set i ((hss[i].less g).join g'),?_,⟨Bhi hp.1 (List.getElem?_eq_getElem hih) (fun k hk=>hk) (fun _ _ _=>trivial) (fun q z hq hne=>?_) ?_,fun z hz=>?_⟩,?_⟩
  .rw[List.length_set];exact hrow0.sub (Ac.sub_refl _)
  .have hzi:=Axb hp.1 (List.getElem?_eq_getElem hih) hq hne
   have hzl:z.sub (F.less g):=Xy (hp.2 z (by simp[List.mem_of_getElem? hq])) (Ac.apart_sub hzi (Ac.sub_refl _) f2)
   exact Ac.apart_join (Ac.apart_sub hzi (Ac.sub_refl _) (Ac.less_sub _ _)) (Ac.apart_sub ha hzl (Ac.sub_refl _))
  .exact Ac.apart_join (Ac.apart_sub hri (Ac.sub_refl _) (Ac.less_sub _ _)) (Ac.apart_sub ha hrl (Ac.sub_refl _))
  .rcases List.mem_cons.1 hz with e1|hz
   .subst e1;exact Ac.sub_trans hrl (Ac.sub_join_left _ _)
   .obtain⟨q,hq⟩:=List.getElem?_of_mem hz
    by_cases hqi:i=q
    .subst hqi
     rw[List.getElem?_set_self hih]at hq
     cases hq
     exact Ac.join_sub (Ac.sub_trans hil (Ac.sub_join_left _ _)) (Ac.sub_join_right ha)
    .rw[List.getElem?_set_ne hqi]at hq
     have hzi:=Axb hp.1 (List.getElem?_eq_getElem hih) hq (Ne.symm hqi)
     exact Ac.sub_trans (Xy (hp.2 z (by simp[List.mem_of_getElem? hq])) (Ac.apart_sub hzi (Ac.sub_refl _) f2)) (Ac.sub_join_left _ _)
  .have:=hel.set (i:=i) (c:=css[i]) hclen hnew hi
   rw[show css.set i css[i]=css by simp]at this
   exact this
end
section

theorem Env.ext' {nt:Nat} {cx:Cx} {g g':Gh} {st st':St} {a:Act} (h:Env nt cx g st a) (hE:Ext g st g' st') (he:st'.env=st.env):Env nt cx g' st' a:=
 ⟨h.1,h.2.1,fun i=>by
  have:st'.get i=st.get i:=by unfold St.get;rw[he]
  rw[this];exact(h.2.2.1 i).ext hE,h.2.2.2⟩
theorem Ar6 {d:Option Nat} {a m:List Nat} {us:List (Nat×Sg)} {st st':St} (h:(Ef.rs a m us).app d st=some st'): ∃live',eat st.live a=some live'/\(∀u,u∈us->u.1∈live')/\(∀t,t∈m->t∉st.used)/\
  st'={J4 st live' us with live:=m.reverse++live',used:=m.reverse++st.used}:=by
 obtain⟨l,hl,h⟩:=Ah h
 obtain⟨hc,h⟩:=Bb h
 obtain⟨u,hu,h⟩:=Ah h
 obtain⟨b1,b2⟩:=I2 hu
 subst b1
 simp only[Option.some.injEq]at h
 refine⟨l,hl,fun u hu=>?_,b2,h.symm⟩
 have:=(List.all_eq_true.1 hc) u hu
 simpa using this
def Sv (t:Nat):List (Nat×Ac)->Option Ac
 |[]=>none
 |(u,f)::r=>if t=u then some f else Sv t r
def UF (gh:Gh):List (Nat×Sg)->List (Nat×Ac)->Prop
 |[],[]=>True
 |u::us,p::fs=>p.1=u.1/\(Bf p.2 u.2.sh u.2.val (gh.V u.1)/\Kr u.2.sh=gh.S u.1/\Ep u.2.sh=true)/\UF gh us fs
 |_,_=>False
theorem UF.app {gh:Gh}: ∀ {us us':List (Nat×Sg)} {fs fs':List (Nat×Ac)},UF gh us fs->UF gh us' fs'->UF gh (us++us') (fs++fs')
 |[],_,[],_,_,h=>h
 |_::_,_,_::_,_,h,h'=>⟨h.1,h.2.1,h.2.2.app h'⟩
 |[],_,_::_,_,h,_=>h.elim
 |_::_,_,[],_,h,_=>h.elim
theorem UF.look {gh:Gh} {t:Nat}: ∀ {us:List (Nat×Sg)} {fs:List (Nat×Ac)},UF gh us fs->(∀s,E6 t us=some s-> ∃f,Sv t fs=some f/\(t,f)∈fs/\Bf f s.sh s.val (gh.V t)/\Kr s.sh=gh.S t/\Ep s.sh=true)/\(E6 t us=none->Sv t fs=none)
 |[],[],_=>⟨fun s h=>(by cases h),fun _=>rfl⟩
 |(u,x)::us,(v,f)::fs,h=>by
  obtain⟨h1,h2,h3⟩:=h
  simp only at h1
  subst h1
  have ih:=UF.look (t:=t) h3
  simp only[E6,Sv]
  cases hb:Nat.beq t v with
  |true=>
   have e:=Nat.eq_of_beq_eq_true hb
   subst e
   refine⟨fun s hs=>?_,fun hs=>(by cases hs)⟩
   simp at hs;subst hs
   exact⟨f,by simp,by simp,h2⟩
  |false=>
   have e:t≠v:=fun e=>by rw[e,Nat.beq_refl]at hb;cases hb
   refine⟨fun s hs=>?_,fun hs=>?_⟩
   .obtain⟨f',k1,k2,k3⟩:=ih.1 s hs
    exact⟨f',by rw[if_neg e];exact k1,List.mem_cons_of_mem _ k2,k3⟩
   .rw[if_neg e];exact ih.2 hs
 |[],_::_,h=>h.elim
 |_::_,[],h=>h.elim
theorem Beq {cx:Cx} {gh:Gh} {st:St}: ∀ {xs:List Cl} {vs:List Value} {ys:List Sg} {g:Ac} {us:List (Nat×Sg)},CRs cx gh st xs vs->OVs g ys vs->Aps xs ys=some us->(∀u,u∈us->u.1∈st.live)->
  ∃fs:List (Nat×Ac),UF gh us fs/\(fs.map fun p=>p.2).Pairwise Ac.apart/\ ∀p,p∈fs->p.2.sub g
 |[],[],[],g,us,_,_,h,_=>by
  simp[Aps]at h;subst h
  exact⟨[],trivial,.nil,fun p hp=>by cases hp⟩
 |x::xs,v::vs,y::ys,g,us,hc,ho,h,hl=>by
  obtain⟨p,q,hp,ho1,ho2⟩:=ho
  simp only[Aps]at h
  obtain⟨r,hr,h⟩:=Ah h
  have rest:(∀u,u∈r->u.1∈st.live)-> ∃fs:List (Nat×Ac),UF gh r fs/\(fs.map fun p=>p.2).Pairwise Ac.apart/\ ∀p,p∈fs->p.2.sub q:=fun hl'=>Beq hc.2 ho2 hr hl'
  split at h
  .rename_i e cs t d
   obtain⟨hb,h⟩:=Bb h
   simp at h;subst h
   obtain⟨fs,k1,k2,k3⟩:=rest (fun u hu=>hl u (by simp[hu]))
   have he:=Sh.eq_of_beq _ _ hb
   obtain⟨q1,q2⟩:=hc.1
   obtain⟨r1,r2,r3,r4,r5⟩:=q2.2 (hl (t,y) (by simp))
   refine⟨(t,p)::fs,⟨rfl,⟨by rw[<-r3];exact ho1,by rw[<-he];exact r4,by rw[<-he];rfl⟩,k1⟩,?_,fun z hz=>?_⟩
   .simp only[List.map_cons]
    refine List.pairwise_cons.2 ⟨fun z hz=>?_,k2⟩
    obtain⟨z',hz',rfl⟩:=List.mem_map.1 hz
    exact Ac.apart_sub ((List.pairwise_cons.1 hp.1).1 q (by simp)) (Ac.sub_refl _) (k3 z' hz')
   .rcases List.mem_cons.1 hz with e1|hz
    .rw[e1];exact hp.2 p (by simp)
    .exact Ac.sub_trans (k3 z hz) (hp.2 q (by simp))
  .simp at h;subst h
   obtain⟨fs,k1,k2,k3⟩:=rest hl
   exact⟨fs,k1,k2,fun z hz=>Ac.sub_trans (k3 z hz) (hp.2 q (by simp))⟩
 |[],[],_::_,_,_,_,ho,_,_=>ho.elim
 |[],_::_,_,_,_,hc,_,_,_=>hc.elim
 |_::_,[],_,_,_,hc,_,_,_=>hc.elim
 |_::_,_::_,[],_,_,_,ho,_,_=>ho.elim
theorem Ber {cx:Cx} {gh:Gh} {st:St}: ∀ {ms:List Nat} {ps:List PV} {vals:List Value} {outs:List RV} {g:Ac} {us:List (Nat×Sg)},VRl cx gh st ps vals->MOa g ms outs vals->Pr ms ps outs=some us->(∀u,u∈us->u.1∈st.live)->
  ∃fs:List (Nat×Ac),UF gh us fs/\(fs.map fun p=>p.2).Pairwise Ac.apart/\ ∀p,p∈fs->p.2.sub g
 |ms,[],[],outs,g,us,_,hm,h,_=>by
  simp only[MOa]at hm
  subst hm
  simp[Pr]at h;subst h
  exact⟨[],trivial,.nil,fun p hp=>by cases hp⟩
 |ms,p::ps,v::vals,outs,g,us,hv,hm,h,hl=>by
  cases p with
  |v a xs=>
   simp only[Pr]at h
   simp only[MOa]at hm
   split at h
   .rename_i h1
    rw[h1]at hm
    cases outs with
    |nil=>cases h
    |cons o os=>
     simp only at hm h
     obtain⟨hao,h⟩:=Bb h
     obtain⟨u,hu,h⟩:=Ah h
     obtain⟨w,hw,h⟩:=Ah h
     simp at h;subst h
     obtain⟨p1,q1,hp,ho,hr⟩:=hm
     have hao:a=o.1:=by simpa using hao
     obtain⟨oa,oy⟩:=o
     simp only at hao hu
     subst hao
     have key: ∃fs:List (Nat×Ac),UF gh u fs/\(fs.map fun p=>p.2).Pairwise Ac.apart/\ ∀p,p∈fs->p.2.sub p1:=by
      have hl1: ∀z,z∈u->z.1∈st.live:=fun z hz=>hl z (by simp[hz])
      cases a with
      |true=>
       obtain⟨vs,e,hc⟩:=hv.1
       obtain⟨vs',e',hos⟩:=ho
       rw[e]at e'
       injection e' with e'
       have e2:vs=vs':=by have:=congrArg Array.toList e';simpa using this
       subst e2
       exact Beq hc hos hu hl1
      |false=>exact Beq (vs:=[v]) hv.1 ho hu hl1
     obtain⟨fs1,a1,a2,a3⟩:=key
     obtain⟨fs2,b1,b2,b3⟩:=Ber hv.2 hr hw (fun z hz=>hl z (by simp[hz]))
     refine⟨fs1++fs2,a1.app b1,?_,fun z hz=>?_⟩
     .rw[List.map_append]
      refine List.pairwise_append.2 ⟨a2,b2,fun x hx y hy=>?_⟩
      obtain⟨x',hx',rfl⟩:=List.mem_map.1 hx
      obtain⟨y',hy',rfl⟩:=List.mem_map.1 hy
      exact Ac.apart_sub ((List.pairwise_cons.1 hp.1).1 q1 (by simp)) (a3 x' hx') (b3 y' hy')
     .rcases List.mem_append.1 hz with q|q
      .exact Ac.sub_trans (a3 z q) (hp.2 p1 (by simp))
      .exact Ac.sub_trans (b3 z q) (hp.2 q1 (by simp))
   .rename_i h1
    have hm':MOa g ms.tail outs vals:=by
     split at hm
     .exact absurd ‹ms.headD 0=1› h1
     .exact hm.elim
     .exact hm
    exact Ber hv.2 hm' h hl
  |any=>simp[Pr]at h
  |box _ _=>simp[Pr]at h
  |el _ _ _=>simp[Pr]at h
  |tup _=>simp[Pr]at h
 |_,[],_::_,_,_,_,hv,_,_,_=>hv.elim
 |_,_::_,[],_,_,_,hv,_,_,_=>hv.elim
theorem Byz {cx:Cx} {w:World} {gh:Gh} {st:St} (hM:RM cx gh st w) {a:Bool} {xs:List Cl} {v:Value} {live live' e:List Nat} (hsub: ∀t,t∈live->t∈st.live) (hnd:live.Nodup) (hc:VRv cx gh st a xs v) (h:T7 xs=some e) (he:eat live e=some live'):
  ∃f,OVv f (strip (a,xs)) v/\(∀t,t∈live'->t∈live)/\live'.Nodup/\ ∀b o,f b=some o-> ∃t,t∈live/\t∉live'/\gh.F t b=some o:=by
 have hst: ∀ {xs:List Cl} {vs:List Value} {f:Ac},OCs f xs vs->OVs f (xs.map fun c=>⟨c.sh,c.val⟩) vs:=by
  intro xs
  induction xs with
  |nil=>intro vs f h;cases vs with|nil=>trivial|cons _ _=>exact h.elim
  |cons x xs ih=>intro vs f h;cases vs with
   |nil=>exact h.elim
   |cons v vs=>obtain⟨p,q,h1,h2,h3⟩:=h;exact⟨p,q,h1,h2,ih h3⟩
 cases a with
 |true=>
  obtain⟨us,e,hcs⟩:=hc
  obtain⟨f,o1,s1,n1,u1⟩:=Zv hM hsub hnd hcs h he
  exact⟨f,⟨us,e,hst o1⟩,s1,n1,u1⟩
 |false=>
  obtain⟨f,o1,s1,n1,u1⟩:=Zv hM hsub hnd (show CRs cx gh st xs [v]from hc) h he
  exact⟨f,hst o1,s1,n1,u1⟩
theorem Bes {cx:Cx} {w:World} {gh:Gh} {st:St} (hM:RM cx gh st w) {f1 f2:Ac} {live l1 live':List Nat} (hsub: ∀t,t∈live->t∈st.live) (s1: ∀t,t∈l1->t∈live) (s2: ∀t,t∈live'->t∈l1)
  (u1: ∀b o,f1 b=some o-> ∃t,t∈live/\t∉l1/\gh.F t b=some o) (u2: ∀b o,f2 b=some o-> ∃t,t∈l1/\t∉live'/\gh.F t b=some o):
  Fb (f1.join f2) [f1,f2]/\ ∀b o,(f1.join f2) b=some o-> ∃t,t∈live/\t∉live'/\gh.F t b=some o:=by
 have hap:f1.apart f2:=fun b=>by
  cases e1:f1 b with
  |none=>exact .inl rfl
  |some o=>
   right
   cases e2:f2 b with
   |none=>rfl
   |some o'=>
    obtain⟨t,ht,ht',hF⟩:=u1 b o e1
    obtain⟨t2,hu,hu',hF'⟩:=u2 b o' e2
    have hne:t≠t2:=fun e=>ht' (e▸hu)
    rcases hM.apart t t2 (hsub t ht) (hsub t2 (s1 t2 hu)) hne b with h|h
    .rw[h]at hF;cases hF
    .rw[h]at hF';cases hF'
 refine⟨Fb.two hap,fun b o hb=>?_⟩
 cases e1:f1 b with
 |some o'=>
  simp[Ac.join,e1]at hb;subst hb
  obtain⟨t,ht,ht',hF⟩:=u1 b _ e1
  exact⟨t,ht,fun hm=>ht' (s2 t hm),hF⟩
 |none=>
  simp[Ac.join,e1]at hb
  obtain⟨t,ht,ht',hF⟩:=u2 b _ hb
  exact⟨t,s1 t ht,ht',hF⟩
def RdP (G:A9):List Nat->List PV->List Value->Prop
 |_,[],[]=>True
 |ms,p::ps,v::vs=>(ms.headD 0=0-> ∀a xs,p= .v a xs->RVv G (strip (a,xs)) v)/\RdP G ms.tail ps vs
 |_,_,_=>False
theorem Axc {G:A9} {cx:Cx} {w:World} {gh:Gh} {st:St} (hM:RM cx gh st w): ∀ {ms:List Nat} {ps:List PV} {vals:List Value} {vs:List RV} {gv:List Nat×List Nat} {live live':List Nat},(∀t,t∈live->t∈st.live)->live.Nodup->
  VRl cx gh st ps vals->RdP G ms ps vals->D3 st ms ps=some vs->L4 ms ps=some gv->eat live gv.2=some live'->
  ∃fr,AVa G fr ms vs vals/\(∀t,t∈live'->t∈live)/\live'.Nodup/\ ∀b o,fr b=some o-> ∃t,t∈live/\t∉live'/\gh.F t b=some o
 |ms,[],[],vs,gv,live,live',hs,hn,_,_,hr,hg,he=>by
  simp[D3]at hr;subst hr
  simp[L4]at hg;subst hg
  simp[eat]at he;subst he
  exact⟨Ac.emp,trivial,fun _ h=>h,hn,fun b o h=>by cases h⟩
 |ms,p::ps,v::vals,vs,gv,live,live',hs,hn,hv,hrp,hr,hg,he=>by
  cases p with
  |v a xs=>
   simp only[D3]at hr
   cases h3:Nat.beq (ms.headD 0) 3 with
   |true=>rw[h3]at hr;cases hr
   |false=>
    rw[h3]at hr
    obtain⟨l,hl,hr⟩:=Ah (show ob (D3 st ms.tail ps) (fun l=>some (strip (a,xs)::l))=some vs from hr)
    simp at hr;subst hr
    simp only[L4]at hg
    obtain⟨p',hp',hg⟩:=Ah hg
    have zero:ms.headD 0=0->p'=gv-> ∃fr,AVa G fr ms (strip (a,xs)::l) (v::vals)/\(∀t,t∈live'->t∈live)/\live'.Nodup/\ ∀b o,fr b=some o-> ∃t,t∈live/\t∉live'/\gh.F t b=some o:=fun hz hpg=>by
     subst hpg
     obtain⟨fr,k1,k2,k3,k4⟩:=Axc hM hs hn hv.2 hrp.2 hl hp' he
     refine⟨fr,⟨Ac.emp,fr,⟨List.pairwise_cons.2 ⟨fun x _=>Ac.emp_apart x,List.pairwise_singleton _ _⟩,fun x hx=>?_⟩,?_,k1⟩,k2,k3,k4⟩
     .simp at hx
      rcases hx with rfl|rfl
      .exact Ac.emp_sub _
      .exact Ac.sub_refl _
     .rw[hz];exact hrp.1 hz a xs rfl
    have given: ∀g,T7 xs=some g->gv.2=g++p'.2->(∀f,OVv f (strip (a,xs)) v->AV1 G f (ms.headD 0) (strip (a,xs)) v)-> ∃fr,AVa G fr ms (strip (a,xs)::l) (v::vals)/\(∀t,t∈live'->t∈live)/\live'.Nodup/\ ∀b o,fr b=some o-> ∃t,t∈live/\t∉live'/\gh.F t b=some o:=fun g hgx hgv hav=>by
     rw[hgv]at he
     obtain⟨l1,he1,he2⟩:=Adf he
     obtain⟨f1,o1,s1,n1,u1⟩:=Byz hM hs hn hv.1 hgx he1
     obtain⟨f2,o2,s2,n2,u2⟩:=Axc hM (fun t ht=>hs t (s1 t ht)) n1 hv.2 hrp.2 hl hp' he2
     obtain⟨hP,hU⟩:=Bes hM hs s1 s2 u1 u2
     exact⟨f1.join f2,⟨f1,f2,hP,hav f1 o1,o2⟩,fun t ht=>s1 t (s2 t ht),n2,hU⟩
    split at hg
    .rename_i hz;simp at hg;exact zero hz hg
    .rename_i hz
     obtain⟨g,hgx,hg⟩:=Ah hg
     simp at hg;subst hg
     exact given g hgx rfl (fun f hf=>by rw[hz];exact hf)
    .rename_i hz
     obtain⟨g,hgx,hg⟩:=Ah hg
     simp at hg;subst hg
     exact given g hgx rfl (fun f hf=>by rw[hz];exact hf)
    .cases hg
  |any=>simp[L4]at hg
  |box _ _=>simp[L4]at hg
  |el _ _ _=>simp[L4]at hg
  |tup _=>simp[L4]at hg
 |_,[],_::_,_,_,_,_,_,_,hv,_,_,_,_=>hv.elim
 |_,_::_,[],_,_,_,_,_,_,hv,_,_,_,_=>hv.elim
end
section

def Ue (G:A9):(cs:List Sh)->dens cs->List Value->Prop
 |[],_,c=>c=[]
 |s::r,d,c=>∃v t,c=v::t/\RdD G s d.1 v/\Ue G r d.2 t
theorem By.rdVs: ∀ {cs:List Sh} {f:Ac} {d:dens cs} {c:List Value},By f cs d c->Ue (B9 f) cs d c
 |[],f,d,c,h=>by simp only[By]at h;exact h
 |s::r,f,d,c,h=>by
  simp only[By]at h
  obtain⟨v,t,g,h',rfl,hp,h1,h2⟩:=h
  have ih:=By.rdVs (f:=f) (By.sub h2 (hp.2 h' (by simp)))
  exact⟨v,t,rfl,Bf.rdIn s g d.1 v _ h1 (fun b o x hx _=>Jp (hp.2 g (by simp)) _ _ _ hx),ih⟩
theorem Ue.sub {G H:A9} (hs:G.sub H): ∀ {cs:List Sh} {d:dens cs} {c:List Value},Ue G cs d c->Ue H cs d c
 |[],d,c,h=>h
 |s::r,d,c,h=>by
  obtain⟨v,t,rfl,h1,h2⟩:=h
  exact⟨v,t,rfl,RdD.sub hs _ _ _ h1,h2.sub hs⟩
theorem Ue.len {G:A9}: ∀ {cs:List Sh} {d:dens cs} {c:List Value},Ue G cs d c->c.length=cs.length
 |[],d,c,h=>by have h:c=[]:=h;subst h;rfl
 |s::r,d,c,h=>by
  obtain⟨v,t,rfl,h1,h2⟩:=h
  simp[h2.len]
theorem Ue.at {G:A9} {sh:Sh} {val:sh.den}: ∀ {cs:List Sh} {d:dens cs} {c:List Value} {j:Nat},Ue G cs d c->D4 cs d j=some ⟨sh,val⟩->j<cs.length/\ ∃u,c[j]? =some u/\RdD G sh val u
 |[],d,c,j,h,hj=>by simp[D4]at hj
 |s::r,d,c,0,h,hj=>by
  obtain⟨v,t,rfl,h1,h2⟩:=h
  simp only[D4,Option.some.injEq]at hj
  cases hj
  exact⟨by simp,v,rfl,h1⟩
 |s::r,d,c,j+1,h,hj=>by
  obtain⟨v,t,rfl,h1,h2⟩:=h
  simp only[D4]at hj
  obtain⟨h0,u,h3,h4⟩:=h2.at hj
  exact⟨by simp;omega,u,by simpa using h3,h4⟩
theorem Ue.cells {G:A9}: ∀ {cs:List Sh} {d:dens cs} {c:List Value} {b o:Nat},Ue G cs d c->(∀j u,c[j]? =some u->G b (o+j)=some u)->Eo G cs d b o
 |[],d,c,b,o,h,hc=>by simp only[Eo]
 |s::r,d,c,b,o,h,hc=>by
  obtain⟨v,t,rfl,h1,h2⟩:=h
  simp only[Eo]
  refine⟨⟨v,by simpa using hc 0 v rfl,h1⟩,h2.cells (fun j u hu=>?_)⟩
  have:=hc (j+1) u (by simpa using hu);rw[show o+1+j=o+(j+1) by omega];exact this
theorem Ue.set {G:A9}: ∀ {cs:List Sh} {d d':dens cs} {c vals:List Value} {xs:List Cl} {off:Nat},Ue G cs d c->RVs G (xs.map fun c=>⟨c.sh,c.val⟩) vals->Ma cs d off xs=some d'->Ue G cs d' (Bn c off vals)
 |[],d,d',c,vals,xs,off,h1,h2,h3=>by
  cases xs with
  |nil=>
   cases vals with
   |nil=>rw[Aeo];exact h1
   |cons _ _=>exact h2.elim
  |cons _ _=>simp[Ma]at h3
 |s::r,d,d',c,vals,[],off,h1,h2,h3=>by
  cases vals with
  |cons _ _=>exact h2.elim
  |nil=>
   rw[Aeo]
   simp[Ma]at h3;subst h3
   exact h1
 |s::r,d,d',c,vals,x::xs,0,h1,h2,h3=>by
  cases vals with
  |nil=>exact h2.elim
  |cons v vs=>
   obtain⟨ho,hr⟩:=h2
   simp only[Ma]at h3
   obtain⟨a,ha,h3⟩:=Ah h3
   obtain⟨e,he,h3⟩:=Ah h3
   simp at h3;subst h3
   obtain⟨v0,t,rfl,k1,k2⟩:=h1
   have ih:=Ue.set (off:=0) k2 hr he
   refine⟨v,Bn t 0 vs,by simp[Bn],?_,ih⟩
   obtain⟨e1,e2⟩:=A20 ha
   obtain⟨sh,val,tok⟩:=x
   simp only at e1;subst e1
   rw[e2];exact ho
 |s::r,d,d',c,vals,x::xs,n+1,h1,h2,h3=>by
  simp only[Ma]at h3
  obtain⟨e,he,h3⟩:=Ah h3
  simp at h3;subst h3
  obtain⟨v0,t,rfl,k1,k2⟩:=h1
  have ih:=Ue.set (off:=n) k2 h2 he
  refine⟨v0,Bn t n vals,?_,k1,ih⟩
  unfold Bn
  rw[show n+1+vals.length=(n+vals.length)+1 by omega]
  simp
theorem Bf.eltRd {F:Ac} {e:Nat} {cs:List Sh} {l:List (dens cs)} {v:Value} {i j:Nat} {d:dens cs} {sh:Sh} {val:sh.den} {u:Value} {b n cap:Nat} (hO:Bf F (.sl e cs) l v) (hd:l[i]? =some d) (hc:D4 cs d j=some ⟨sh,val⟩)
  (hv:v= .slice (some ⟨b,0,none⟩) n cap) (hu:F.cell b (i*cs.length+j)=some u): ∃h:Ac,h.sub F/\h b=none/\RdD (B9 h) sh val u:=by
 simp only[Bf]at hO
 obtain⟨css,r,hss,hrow,hp,hel⟩:=hO
 have hi:i<l.length:=(List.getElem?_eq_some_iff.1 hd).1
 have hic:i<css.length:=by rw[hel.1];exact hi
 have hih:i<hss.length:=by rw[hel.2.1];exact hi
 obtain⟨hlen,hown⟩:=hel.2.2 i _ _ d (List.getElem?_eq_getElem hih) (List.getElem?_eq_getElem hic) hd
 obtain⟨hj,u',hu',hr⟩:=(By.rdVs hown).at hc
 have hflat:css.flatten[i*cs.length+j]? =some u':=by
  rw[Ft hel.len (List.getElem?_eq_getElem hic) hj];exact hu'
 obtain⟨a,cap',h0,h1,h2,h3⟩:=hrow.rd
 rw[hv]at h0
 cases h0
 have h4:=(h3 _ _ hflat).2
 have h5:=Ac.cell_sub (hp.2 r (by simp)) h4
 simp only[Nat.zero_add]at h5
 rw[hu]at h5
 cases h5
 refine⟨hss[i],hp.2 _ (by simp[List.getElem_mem]),?_,hr⟩
 rcases(List.pairwise_cons.1 hp.1).1 hss[i] (List.getElem_mem hih) b with q|q
 .unfold Ac.cell at h4;rw[q]at h4;cases h4
 .exact q
def Amp (F:Ac) (v:Value):List Cl->List Value->Prop
 |[],[]=>True
 |x::xs,u::us=>((Ep x.sh=false/\ ∃G,RdD G x.sh x.val u)\/ ∃e cs,∃(l:List (dens cs)) (i:Nat) (d:dens cs) (j b n cap:Nat),Bf F (.sl e cs) l v/\l[i]? =some d/\D4 cs d j=some ⟨x.sh,x.val⟩/\v= .slice (some ⟨b,0,none⟩) n cap/\F.cell b (i*cs.length+j)=some u)/\Amp F v xs us
 |_,_=>False
theorem Amp.rd {F H:Ac} {v:Value} {b n cap:Nat} (hv:v= .slice (some ⟨b,0,none⟩) n cap) (hH: ∀h:Ac,h.sub F->h b=none->h.sub H): ∀ {xs:List Cl} {us:List Value},Amp F v xs us->RVs (B9 H) (xs.map fun c=>⟨c.sh,c.val⟩) us
 |[],[],_=>trivial
 |x::xs,u::us,h=>by
  refine⟨?_,h.2.rd hv hH⟩
  rcases h.1 with⟨hs,G,hr⟩|⟨e,cs,l,i,d,j,b',n',cap',h1,h2,h3,h4,h5⟩
  .exact RdD.scalar hs hr
  .obtain⟨h',k1,k2,k3⟩:=h1.eltRd h2 h3 h4 h5
   rw[hv]at h4
   cases h4
   exact RdD.sub (Jp (hH h' k1 k2)) _ _ _ k3
 |[],_::_,h=>h.elim
 |_::_,[],h=>h.elim
theorem Amp.len {F:Ac} {v:Value}: ∀ {xs:List Cl} {us:List Value},Amp F v xs us->xs.length=us.length
 |[],[],_=>rfl
 |_::_,_::_,h=>by simp[h.2.len]
 |[],_::_,h=>h.elim
 |_::_,[],h=>h.elim
theorem Bf.frz {F:Ac} {e:Nat} {cs:List Sh} {l:List (dens cs)} {v:Value} {i:Nat} {d:dens cs} (hO:Bf F (.sl e cs) l v) (hd:l[i]? =some d) {xs:List Cl} {vals:List Value} {off:Nat} {d':dens cs}
  (hx:Amp F v xs vals) (hs:Ma cs d off xs=some d') (hfit:off+vals.length<=cs.length):
  ∃b n cap cur,v= .slice (some ⟨b,0,none⟩) n cap/\F b=some (.cells cur e (0,0))/\i*cs.length+off+vals.length<=cur.size/\
   RdD (B9 ((Ac.one b (.cells (Bn cur.toList (i*cs.length+off) vals).toArray e (0,0))).join F)) (.sl e cs) (l.set i d') v:=by
 simp only[Bf]at hO
 obtain⟨css,r,hss,hrow,hp,hel⟩:=hO
 have hi:i<l.length:=(List.getElem?_eq_some_iff.1 hd).1
 obtain⟨hl,⟨⟨a',hE⟩,hz⟩|⟨b,cap,cur,hE,hg,hnc,hcm,hsz,htk⟩⟩:=hrow
 .omega
 have hic:i<css.length:=by rw[hel.1];exact hi
 have hih:i<hss.length:=by rw[hel.2.1];exact hi
 have hFb:F b=some (.cells cur e (0,0)):=hp.2 r (by simp) _ _ hg
 have hle:i*cs.length+cs.length<=l.length*cs.length:=by rw[<-Nat.succ_mul];exact Nat.mul_le_mul_right _ hi
 have hlc:l.length*cs.length<=cap*cs.length:=Nat.mul_le_mul_right _ hnc
 have hH: ∀h:Ac,h.sub F->h b=none->h.sub ((Ac.one b (.cells (Bn cur.toList (i*cs.length+off) vals).toArray e (0,0))).join F):=fun h h1 h2 k o hk=>by
  have hne:k≠b:=fun q=>by rw[q,h2]at hk;cases hk
  simp only[Ac.join,Ac.one,hne,if_false,Option.none_or]
  exact h1 k o hk
 have hchild: ∀x,x∈hss->x.sub F/\x b=none:=fun x hx=>by
  refine⟨hp.2 x (by simp[hx]),?_⟩
  rcases(List.pairwise_cons.1 hp.1).1 x hx b with q|q
  .rw[hg]at q;cases q
  .exact q
 refine⟨b,_,cap,cur,hE,hFb,by omega,?_⟩
 have hvals:=hx.rd hE hH
 have hall: ∀c∈css.set i (Bn css[i] off vals),c.length=cs.length:=fun c hc=>by
  rcases List.mem_or_eq_of_mem_set hc with q|q
  .exact hel.len c q
  .rw[q,Wq (by rw[hel.len _ (List.getElem_mem hic)];omega)];exact hel.len _ (List.getElem_mem hic)
 have hflat:(css.set i (Bn css[i] off vals)).flatten=Bn css.flatten (i*cs.length+off) vals:=Ar5 hel.len (List.getElem?_eq_getElem hic) hfit
 simp only[RdD]
 refine⟨some ⟨b,0,none⟩,cap,by rw[List.length_set];exact hE,by rw[List.length_set];exact hnc,hcm,fun h=>(by cases h),fun j dj hj=>⟨b,0,rfl,?_⟩⟩
 have hjl:j<l.length:=by have:=(List.getElem?_eq_some_iff.1 hj).1;simpa using this
 have hjc:j<css.length:=by rw[hel.1];exact hjl
 have hjh:j<hss.length:=by rw[hel.2.1];exact hjl
 have hlej:j*cs.length+cs.length<=l.length*cs.length:=by rw[<-Nat.succ_mul];exact Nat.mul_le_mul_right _ hjl
 have key: ∃c,(css.set i (Bn css[i] off vals))[j]? =some c/\Ue (B9 ((Ac.one b (.cells (Bn cur.toList (i*cs.length+off) vals).toArray e (0,0))).join F)) cs dj c:=by
  by_cases hij:i=j
  .subst hij
   rw[List.getElem?_set_self hi]at hj
   cases hj
   refine⟨_,List.getElem?_set_self hic,?_⟩
   obtain⟨_,hown⟩:=hel.2.2 i _ _ d (List.getElem?_eq_getElem hih) (List.getElem?_eq_getElem hic) hd
   obtain⟨q1,q2⟩:=hchild _ (List.getElem_mem hih)
   exact((By.rdVs hown).sub (Jp (hH _ q1 q2))).set hvals hs
  .rw[List.getElem?_set_ne hij]at hj
   refine⟨css[j],by rw[List.getElem?_set_ne hij];exact List.getElem?_eq_getElem hjc,?_⟩
   obtain⟨_,hown⟩:=hel.2.2 j _ _ dj (List.getElem?_eq_getElem hjh) (List.getElem?_eq_getElem hjc) hj
   obtain⟨q1,q2⟩:=hchild _ (List.getElem_mem hjh)
   exact(By.rdVs hown).sub (Jp (hH _ q1 q2))
 obtain⟨c,hcj,hrv⟩:=key
 refine hrv.cells (fun q u hu=>?_)
 have hq:q<cs.length:=by rw[<-hrv.len];exact(List.getElem?_eq_some_iff.1 hu).1
 have h1:(css.set i (Bn css[i] off vals)).flatten[j*cs.length+q]? =some u:=by rw[Ft hall hcj hq];exact hu
 rw[hflat,<-htk,<-A22 (by omega) (by simp;omega),List.getElem?_take]at h1
 split at h1
 .show Ac.cell _ b _=some u
  unfold Ac.cell
  simp only[Ac.join,Ac.one,if_true]
  simpa using h1
 .cases h1
def Nv (st:St) (live:List Nat) (t:Nat) (s:Sg):St:=
 {env:=st.env.map fun p=>(p.1,Ro live t s p.2),boxes:=st.boxes.map fun b=>(b.1,b.2.map (Ih live t s)),live:=live,used:=st.used}
theorem Btt (st:St) (live:List Nat) (t:Nat) (s:Sg) (i:Nat):(Nv st live t s).get i=Ro live t s (st.get i):=Ud _ rfl _ _
theorem Bhj (st:St) (live:List Nat) (t:Nat) (s:Sg) (k:Nat):(Nv st live t s).bx k=(st.bx k).map fun cs=>cs.map (Ih live t s):=Qd _ _ _
theorem Ab9 (st:St) (live:List Nat) (t:Nat) (s:Sg) (k:Nat):(Nv st live t s).has k=st.has k:=by unfold St.has;rw[Bhj];simp
theorem B2e {d:Option Nat} {t:Nat} {s:Sg} {st st':St} (h:(Ef.fz t s).app d st=some st'): ∃live',eat st.live [t]=some live'/\st'=Nv st live' t s:=by
 obtain⟨l,hl,h⟩:=Ah h
 simp only[Option.some.injEq]at h
 exact⟨l,hl,h.symm⟩
open Classical in
noncomputable def Adh (G:A9) (f:Ac):A9:=fun b o=>match G b o with|some x=>some x|none=>B9 f b o
section
variable {cx:Cx} {gh:Gh} {st:St} {w w':World} {live':List Nat} {t:Nat} {s:Sg} {f:Ac} (hM:RM cx gh st w) (T:Turn cx gh st w w' live' [] gh.F) (htl:t∈st.live)
 (hlf:Bu f w') (hmine: ∀b o,f b=some o->Fu cx b) (hapf: ∀u,u∈live'->(gh.F u).apart f) (hboxf: ∀k,st.has k=true->f (gh.B k)=none)
 (hrd:RdD (B9 f) s.sh s.val (gh.V t))
noncomputable def Frz.hh (cx:Cx) (gh:Gh) (live':List Nat) (f:Ac):Gh:=⟨Adh (Et cx live' gh.F gh.V gh.S) f,gh.B,gh.F,gh.V,gh.S⟩
theorem A23 {G:A9} {f:Ac}:G.sub (Adh G f):=fun b o x h=>by unfold Adh;rw[h]
theorem Bqn {G:A9} {f:Ac} {b o:Nat} {x:Value} (h:Adh G f b o=some x):G b o=some x\/B9 f b o=some x:=by
 unfold Adh at h
 split at h
 .rename_i y hy;cases h;exact .inl hy
 .exact .inr h
include hM T hlf
theorem Frz.lies:Ez (Adh (Et cx live' gh.F gh.V gh.S) f) w':=fun b o x h=>by
 rcases Bqn h with q|q
 .exact Turn.good hM T b o x (Jb q)
 .exact hlf.cell q
theorem Frz.right:(B9 f).sub (Adh (Et cx live' gh.F gh.V gh.S) f):=fun b o x h=>by
 cases e:Et cx live' gh.F gh.V gh.S b o with
 |none=>unfold Adh;rw[e];exact h
 |some y=>
  have h1:=Turn.good hM T b o y (Jb e)
  rw[hlf.cell h]at h1
  cases h1
  exact A23 _ _ _ e
include hapf
theorem Frz.ext:Ext (Turn.gh gh cx live' gh.F) (J4 st live' []) (Frz.hh cx gh live' f) (Nv st live' t s):=by
 refine⟨A23,fun _ _=>rfl,fun k hk=>by rw[Ab9];rw[Qe]at hk;exact hk,fun _ h=>h,fun u hu _=>⟨hu,rfl,rfl,rfl,fun b o hb=>?_⟩⟩
 show Adh (Et cx live' gh.F gh.V gh.S) f b o=Et cx live' gh.F gh.V gh.S b o
 have hfb:f b=none:=by
  obtain⟨ob,hob⟩:=Option.isSome_iff_exists.1 hb
  have hob:gh.F u b=some ob:=hob
  rcases hapf u hu b with q|q
  .rw[hob]at q;cases q
  .exact q
 unfold Adh
 split
 .rename_i y hy;exact hy.symm
 .rename_i hy;rw[hy];unfold B9 Ac.cell;rw[hfb]
include htl hrd
theorem Frz.cl {x:Cl} {v:Value} (hx:CR cx gh st x v):CR cx (Frz.hh cx gh live' f) (Nv st live' t s) (Ih live' t s x) v:=by
 have base:CR cx (Frz.hh cx gh live' f) (Nv st live' t s) (Ir live' [] x) v:=(Turn.cl hM T hx).ext (Frz.ext hM T hlf hapf)
 obtain⟨sh,val,tok⟩:=x
 cases tok with
 |own u=>
  simp only[Ih]
  cases hb:Nat.beq u t with
  |false=>exact base
  |true=>
   have e:=Nat.eq_of_beq_eq_true hb
   subst e
   obtain⟨h1,h2⟩:=hx
   obtain⟨q1,q2,q3,q4,q5⟩:=h2.2 htl
   have q3:v=gh.V u:=q3
   cases hs:Sh.beq sh s.sh with
   |false=>exact Bep h1
   |true=>
    refine⟨?_,trivial⟩
    show RdD (Adh (Et cx live' gh.F gh.V gh.S) f) s.sh s.val v
    rw[q3]
    exact RdD.sub (Frz.right hM T hlf) _ _ _ hrd
 |_=>exact base
theorem Frz.cls: ∀ {xs:List Cl} {vs:List Value},CRs cx gh st xs vs->CRs cx (Frz.hh cx gh live' f) (Nv st live' t s) (xs.map (Ih live' t s)) vs
 |[],[],_=>trivial
 |x::xs,v::vs,hx=>⟨Frz.cl hM T htl hlf hapf hrd hx.1,Frz.cls hx.2⟩
 |[],_::_,hx=>hx.elim
 |_::_,[],hx=>hx.elim
theorem Frz.vv {a:Bool} {xs:List Cl} {v:Value} (hx:VRv cx gh st a xs v):VRv cx (Frz.hh cx gh live' f) (Nv st live' t s) a (xs.map (Ih live' t s)) v:=by
 cases a with
 |true=>obtain⟨vs,e,hx⟩:=hx;exact⟨vs,e,Frz.cls hM T htl hlf hapf hrd hx⟩
 |false=>exact Frz.cls hM T htl hlf hapf hrd (xs:=xs) (vs:=[v]) hx
theorem Frz.vt: ∀ {l:List (Bool×List Cl)} {vs:List Value},VRt cx gh st l vs->VRt cx (Frz.hh cx gh live' f) (Nv st live' t s) (l.map fun x=>(x.1,x.2.map (Ih live' t s))) vs
 |[],[],_=>trivial
 |x::xs,v::vs,hx=>⟨Frz.vv hM T htl hlf hapf hrd hx.1,Frz.vt hx.2⟩
 |[],_::_,hx=>hx.elim
 |_::_,[],hx=>hx.elim
theorem Frz.el: ∀ {xs:List Cl} {b o:Nat},ElR cx gh st true xs b o->ElR cx (Frz.hh cx gh live' f) (Nv st live' t s) true (xs.map (Ih live' t s)) b o
 |[],_,_,_=>trivial
 |x::xs,b,o,⟨⟨u,h1,h2⟩,h3⟩=>⟨⟨u,h1,Frz.cl hM T htl hlf hapf hrd h2⟩,Frz.el h3⟩
theorem Frz.v {p:PV} {v:Value} (hx:VR cx gh st p v):VR cx (Frz.hh cx gh live' f) (Nv st live' t s) (Ro live' t s p) v:=by
 cases p with
 |any=>trivial
 |v a xs=>exact Frz.vv hM T htl hlf hapf hrd hx
 |box b off=>exact⟨by rw[Ab9];exact hx.1,hx.2⟩
 |tup l=>obtain⟨vs,e,hx⟩:=hx;exact⟨vs,e,Frz.vt hM T htl hlf hapf hrd hx⟩
 |el p ro xs=>
  cases ro with
  |false=>trivial
  |true=>obtain⟨b,o,e,hx,_⟩:=hx;exact⟨b,o,e,Frz.el hM T htl hlf hapf hrd hx,trivial⟩
theorem Frz.env {nt:Nat} {a:Act} (hE:Env nt cx gh st a):Env nt cx (Frz.hh cx gh live' f) (Nv st live' t s) a:=
 ⟨hE.1,hE.2.1,fun i=>by rw[Btt];exact Frz.v hM T htl hlf hapf hrd (hE.2.2.1 i),hE.2.2.2⟩
include hmine hboxf
theorem Frz.rm:RM cx (Frz.hh cx gh live' f) (Nv st live' t s) w':=by
 have M1:=Turn.rm hM T
 refine⟨M1.moved,Frz.lies hM T hlf,fun b o x hx=>A23 _ _ _ (M1.g0 b o x hx),M1.old,fun k cs hk=>?_,fun i j hi hj=>?_,fun k o hk=>?_,M1.tok,M1.apart,fun u k hu hk=>?_,M1.nodup,fun b o x hx=>?_⟩
 .rw[Bhj]at hk
  cases hb:st.bx k with
  |none=>rw[hb]at hk;cases hk
  |some c0=>
   rw[hb]at hk
   simp at hk;subst hk
   obtain⟨vs,e,h1,h2,h3⟩:=hM.box k c0 hb
   exact⟨vs,e,by rw[<-h1];exact T.box k (Gs hb),h2,Frz.cls hM T htl hlf hapf hrd h3⟩
 .rw[Ab9]at hi hj;exact hM.inj i j hi hj
 .rw[Ab9]at hk
  have h1:=M1.boxG k o (by rw[Qe];exact hk)
  have h1:Et cx live' gh.F gh.V gh.S (gh.B k) o=none:=h1
  show Adh (Et cx live' gh.F gh.V gh.S) f (gh.B k) o=none
  unfold Adh
  rw[h1]
  unfold B9 Ac.cell
  simp only[hboxf k hk]
 .rw[Ab9]at hk;exact T.tokBox u k hu hk
 .rcases Bqn hx with q|q
  .exact M1.new b o x q
  .right
   unfold B9 Ac.cell at q
   cases hf:f b with
   |none=>rw[hf]at q;cases q
   |some ob=>exact hmine b ob hf
end
end
section

theorem Amq: ∀ {l:List Nat},T8 l=true->l.Nodup
 |[],_=>List.nodup_nil
 |t::r,h=>by
  simp only[T8,Bool.and_eq_true,Bool.not_eq_true']at h
  refine List.nodup_cons.2 ⟨fun hm=>?_,Amq h.2⟩
  rw[List.contains_iff_mem.2 hm]at h;cases h.1
theorem N9: ∀ {l live live':List Nat},eat live l=some live'->live.Nodup->(∀t,t∈live'↔t∈live/\t∉l)/\ ∀t,t∈l->t∈live
 |[],live,live',h,hn=>by simp[eat]at h;subst h;exact⟨fun t=>by simp,fun t h=>by cases h⟩
 |x::l,live,live',h,hn=>by
  simp only[eat]at h
  cases hc:live.contains x with
  |false=>rw[hc]at h;cases h
  |true=>
   rw[hc]at h
   obtain⟨h1,h3⟩:=N9 h (hn.erase _)
   have hx:x∈live:=by simpa using hc
   refine⟨fun t=>?_,fun t ht=>?_⟩
   .rw[h1,hn.mem_erase_iff,List.mem_cons]
    constructor
    .rintro⟨⟨a,b⟩,c⟩;exact⟨b,fun h=>h.elim a c⟩
    .rintro⟨a,b⟩;exact⟨⟨fun e=>b (.inl e),a⟩,fun e=>b (.inr e)⟩
   .rcases List.mem_cons.1 ht with e|ht'
    .rw[e];exact hx
    .exact List.mem_of_mem_erase (h3 t ht')
theorem Bqo: ∀ {l live:List Nat},live.Nodup->l.Nodup->(∀t,t∈l->t∈live)-> ∃live',eat live l=some live'
 |[],live,_,_,_=>⟨live,rfl⟩
 |x::l,live,hn,hl,hm=>by
  have hx:live.contains x=true:=by simpa using hm x (by simp)
  have hl':=List.nodup_cons.1 hl
  obtain⟨live',h⟩:=Bqo (hn.erase x) hl'.2 (fun t ht=>hn.mem_erase_iff.2 ⟨fun e=>hl'.1 (e▸ht),hm t (by simp[ht])⟩)
  exact⟨live',by simp only[eat,hx,cond_true];exact h⟩
theorem Adi {cx:Cx} {gh:Gh} {st:St} {t:Nat} (htl:t∈st.live): ∀ {xs:List Cl} {vs:List Value},CRs cx gh st xs vs->Ns t xs=true->Amp (gh.F t) (gh.V t) xs vs
 |[],[],_,_=>trivial
 |⟨.sl e0 c0,val,.elt u e cs l i d j⟩::xs,v::vs,h,hf=>by
  simp only[Ns]at hf
  cases hb:Nat.beq u t with
  |false=>rw[hb]at hf;cases hf
  |true=>
   rw[hb]at hf
   have e1:=Nat.eq_of_beq_eq_true hb
   subst e1
   obtain⟨⟨h1,h2,h3⟩,hr⟩:=h
   obtain⟨⟨q1,q2,q3,q4⟩,q5,b,n,cap,q6,q7⟩:=h3 htl
   exact⟨.inr ⟨e,cs,l,i,d,j,b,n,cap,q1,q4,q5,q6,q7⟩,Adi htl hr hf⟩
 |⟨.sl _ _,_,.ro⟩::_,_,_,hf=>by simp[Ns]at hf
 |⟨.sl _ _,_,.rd⟩::_,_,_,hf=>by simp[Ns]at hf
 |⟨.sl _ _,_,.nil⟩::_,_,_,hf=>by simp[Ns]at hf
 |⟨.sl _ _,_,.own _⟩::_,_,_,hf=>by simp[Ns]at hf
 |⟨.sl _ _,_,.row _⟩::_,_,_,hf=>by simp[Ns]at hf
 |⟨.sl _ _,_,.pin _⟩::_,_,_,hf=>by simp[Ns]at hf
 |⟨.sl _ _,_,.bag _ _⟩::_,_,_,hf=>by simp[Ns]at hf
 |⟨.sl _ _,_,.one _ _ _⟩::_,_,_,hf=>by simp[Ns]at hf
 |⟨.sl _ _,_,.nst _⟩::_,_,_,hf=>by simp[Ns]at hf
 |⟨.sl _ _,_,.grd _⟩::_,_,_,hf=>by simp[Ns]at hf
 |⟨.sl _ _,_,.prt _ _ _ _ _⟩::_,_,_,hf=>by simp[Ns]at hf
 |⟨.int _,_,_⟩::xs,v::vs,h,hf=>⟨.inl ⟨rfl,_,h.1.1⟩,Adi htl h.2 hf⟩
 |⟨.bool,_,_⟩::xs,v::vs,h,hf=>⟨.inl ⟨rfl,_,h.1.1⟩,Adi htl h.2 hf⟩
 |⟨.str,_,_⟩::xs,v::vs,h,hf=>⟨.inl ⟨rfl,_,h.1.1⟩,Adi htl h.2 hf⟩
 |⟨.junk,_,_⟩::xs,v::vs,h,hf=>⟨.inl ⟨rfl,_,h.1.1⟩,Adi htl h.2 hf⟩
 |[],_::_,h,_=>h.elim
 |_::_,[],h,_=>h.elim
theorem Bce {cx:Cx} {w w':World} (h:Moved cx.f0 cx.w0 w) {f:Ac} (hm:Moved f w w') (hf: ∀b o,f b=some o->Fu cx b):Moved cx.f0 cx.w0 w':=
 ⟨hm.os.trans h.os,hm.tape.trans h.tape,hm.output.trans h.output,Nat.le_trans h.size hm.size,fun k hk h0=>by
  rw[hm.block k (Nat.lt_of_lt_of_le hk h.size) ?_,h.block k hk h0]
  cases e:f k with
  |none=>rfl
  |some o=>
   rcases hf k o e with q|q
   .omega
   .rw[h0]at q;cases q⟩
section
variable {P:Program} {g:Cfg} (hC:CfgOk P g) {cx:Cx} {gh:Gh} {st:St} {a:Act} {w:World} {nt:Nat} (hM:RM cx gh st w) (hE:Env nt cx gh st a)
 {o:Oper} {ρ:Type} {k:PV->Ef->Option ρ} {r:ρ} {next:Act->World->Prop} {Q:Exit->Act->World->Prop}
 (hk: ∀pv ef,k pv ef=some r-> ∃st',ef.app o.dst st=some st')
 (hn: ∀gh' pv ef st' v w',k pv ef=some r->ef.app o.dst st=some st'->RM cx gh' st' w'->Env nt cx gh' st' a->VR cx gh' st' pv v->next (a.put o.dst v) w')
include hC hM hE hk hn
theorem By0 {t:Nat} {x y:Operand} (ho:o.op= .store t x y) (h:(ob (g.ty t) fun T=>ob (evO g.ty st t x) fun p=>ob (evO g.ty st t y) fun q=>
  match p,q with
  | .box b off,.v _ xs=>chk (Nat.beq xs.length T.shs.length) (k .any (.setBox b off xs))
  | .el (some p) _ _,.v _ xs=>chk (Nat.beq xs.length T.shs.length && Nat.ble (p.off+xs.length) p.cs.length) (ob (Ma p.cs p.d p.off xs) fun d'=>match T7 xs with
   |some a=>k .any (.rs a [] [(p.t,⟨.sl p.e p.cs,p.l.set p.i d'⟩)])
   |none=>chk (Ns p.t xs) (k .any (.fz p.t ⟨.sl p.e p.cs,p.l.set p.i d'⟩)))
  |_,_=>none)=some r):o.wp P a w next Q:=by
 obtain⟨T,hT,h⟩:=Ah h
 obtain⟨p,hp,h⟩:=Ah h
 obtain⟨q,hq,h⟩:=Ah h
 have hok:=hC.ty t T hT
 have hvp:=Kg hE hp
 have hvq:=Kg hE hq
 obtain⟨i,z,d,i1,i2,i3,i4,i5,i6⟩:=hok.inf
 have hsame: ∀ad,storeVar t ad (a.eval y)=storeVar t ad (.agg (a.eval y).cells):=fun ad=>by
  have hcc:(Value.agg (a.eval y).cells).cells=(a.eval y).cells:=rfl
  unfold storeVar;rw[hcc]
 split at h
 .rename_i b off ag xs _
  obtain⟨hl,h⟩:=Bb h
  have hl1:=Nat.eq_of_beq_eq_true hl
  obtain⟨st',hst⟩:=hk _ _ h
  have hst0:=hst
  obtain⟨cs,hc,hst0⟩:=Ah hst0
  obtain⟨hl2,hst0⟩:=Bb hst0
  have hl2:=Nat.le_of_ble_eq_true hl2
  simp at hst0
  subst hst0
  obtain⟨vs,e,h1,h2,h3⟩:=hM.box b cs hc
  have hcs:=VRv.cells hvq
  obtain⟨m,ex⟩:=hM.setBox hc h1 h3 hcs hl2
  refine A8f (w':=w.setCells (gh.B b) off (a.eval y).cells.toList) ?_ (hn _ _ _ _ undef _ h hst m (hE.ext' ex rfl) (show VR cx _ _ .any _ from trivial))
  unfold execOp;rw[ho]
  have hlen:(a.eval y).cells.size=T.shs.length:=by rw[<-hl1,hcs.len];simp
  have hst:(storeVar t ⟨gh.B b,off,none⟩ (.agg (a.eval y).cells)).run P w= .ok () (w.setCells (gh.B b) off (a.eval y).cells.toList):=by
   refine run_storeVar_mid w _ _ _ _ (fun j hj=>?_) (by rw[i1];simp[i2,hlen]) (Array.all_eq_true_iff_forall_mem.2 fun v hv=>hcs.one v (by simpa using hv))
   rw[cell_of_row _ _ _ _ _ _ h1,frozen_of_row _ _ _ _ _ h1]
   have:off+j<vs.length:=by rw[<-h3.len];have:=hcs.len;simp at this;omega
   simp[this]
  simp only[hvp.2,Instr.storeAt,Instr.sureAddr,Sem.run_bind,Sem.run_pure,Result.andThen_ok,hsame,hst]
 .rename_i p ro ys ag xs _
  obtain⟨hl,h⟩:=Bb h
  simp only[Bool.and_eq_true]at hl
  have hl1:=Nat.eq_of_beq_eq_true hl.1
  have hfit:=Nat.le_of_ble_eq_true hl.2
  obtain⟨d',hd',h⟩:=Ah h
  split at h
  .rename_i ate hate
   obtain⟨st',hst⟩:=hk _ _ h
   obtain⟨live',heat,hkeys,_,hst2⟩:=Ar6 hst
   have hst3:st'=J4 st live' [(p.t,⟨.sl p.e p.cs,p.l.set p.i d'⟩)]:=by rw[hst2];rfl
   clear hst2
   subst hst3
   have htl:p.t∈live':=hkeys (p.t,⟨.sl p.e p.cs,p.l.set p.i d'⟩) (by simp)
   have hcs:=VRv.cells hvq
   obtain⟨f,o1,o2,o3,o4⟩:=Zv hM (fun _ h=>h) hM.nodup hcs hate heat
   obtain⟨b,off,hv,_,hpl⟩:=hvp
   obtain⟨_,hpl⟩:=hpl
   obtain⟨⟨e1,e2,e3,e4⟩,n,cap,hV,hoff⟩:=hpl (o2 _ htl)
   have hap:(gh.F p.t).apart f:=fun bb=>by
    cases e:f bb with
    |none=>exact .inr rfl
    |some ob=>
     left
     obtain⟨u,u1,u2,u3⟩:=o4 bb ob e
     have hne:p.t≠u:=fun e=>u2 (e▸htl)
     rcases hM.apart p.t u (o2 _ htl) u1 hne bb with q|q
     .exact q
     .rw[q]at u3;cases u3
   have hlen:(a.eval y).cells.toList.length=xs.length:=hcs.len.symm
   obtain⟨b',n',cap',cur,k1,k2,k3,k4⟩:=Bf.setElem e1 e4 o1 hd' hap (by rw[hlen];exact hfit)
   rw[hV]at k1
   cases k1
   subst hoff
   have hblk:=(hM.tok p.t (o2 _ htl)).2.1 b _ k2
   have hmb:=(hM.tok p.t (o2 _ htl)).2.2 b _ k2
   have hsp:w.setCells b (p.i*p.cs.length+p.off) (a.eval y).cells.toList=w.setRow b (Bn cur.toList (p.i*p.cs.length+p.off) (a.eval y).cells.toList).toArray:=by
    rw[Ab4 b p.e (a.eval y).cells.toList (p.i*p.cs.length+p.off) cur w hblk k3]
    rfl
   have hoth: ∀bb ob,bb≠b->w.heap[bb]? =some ob->(w.setRow b (Bn cur.toList (p.i*p.cs.length+p.off) (a.eval y).cells.toList).toArray).heap[bb]? =some ob:=fun bb ob hne hw=>by
    rw[setRow_other w b bb _ hne];exact hw
   have hTn:Turn cx gh st w (w.setRow b (Bn cur.toList (p.i*p.cs.length+p.off) (a.eval y).cells.toList).toArray) live' [(p.t,⟨.sl p.e p.cs,p.l.set p.i d'⟩)]
     (fun u=>if u=p.t then(Ac.one b (.cells (Bn cur.toList (p.i*p.cs.length+p.off) (a.eval y).cells.toList).toArray p.e (0,0))).join ((gh.F p.t).join f)else gh.F u):=by
    have hlook: ∀u,E6 u [(p.t,(⟨.sl p.e p.cs,p.l.set p.i d'⟩:Sg))]=if u=p.t then some ⟨.sl p.e p.cs,p.l.set p.i d'⟩else none:=fun u=>by
     simp only[E6]
     by_cases hu:u=p.t
     .subst hu;simp
     .have:Nat.beq u p.t=false:=by
       cases hb:Nat.beq u p.t with
       |false=>rfl
       |true=>exact(hu (Nat.eq_of_beq_eq_true hb)).elim
      rw[this,if_neg hu];rfl
    have hfb:f b=none:=(hap b).resolve_left (by rw[k2];simp)
    have hliesf:Bu f w:=fun bb ob hb=>by
     obtain⟨u,u1,_,u3⟩:=o4 bb ob hb
     exact(hM.tok u u1).2.1 bb ob u3
    have hblock: ∀bb ob,((Ac.one b (.cells (Bn cur.toList (p.i*p.cs.length+p.off) (a.eval y).cells.toList).toArray p.e (0,0))).join ((gh.F p.t).join f)) bb=some ob->(bb=b/\ob= .cells (Bn cur.toList (p.i*p.cs.length+p.off) (a.eval y).cells.toList).toArray p.e (0,0))\/(bb≠b/\(gh.F p.t bb=some ob\/f bb=some ob)):=fun bb ob hb=>by
     by_cases hbb:bb=b
     .left
      subst hbb
      simp[Ac.join,Ac.one]at hb
      exact⟨rfl,hb.symm⟩
     .right
      refine⟨hbb,?_⟩
      simp only[Ac.join,Ac.one,hbb,if_false,Option.none_or]at hb
      cases e:gh.F p.t bb with
      |some x=>rw[e]at hb;simp at hb;exact .inl (by rw[hb])
      |none=>rw[e]at hb;simp at hb;exact .inr hb
    refine⟨hM.moved.row hmb _,o2,o3,hkeys,fun u hu hlu=>?_,fun u s hlu=>?_,fun u u' hu hu' hne=>?_,fun u kk hu hkk=>?_,fun kk hkk=>?_⟩
    .rw[hlook]at hlu
     split at hlu
     .cases hlu
     .rename_i hne
      refine⟨by simp[hne],fun bb ob hb=>hoth bb ob (fun e=>?_) ((hM.tok u (o2 u hu)).2.1 bb ob hb)⟩
      subst e
      rcases hM.apart u p.t (o2 u hu) (o2 _ htl) hne bb with q|q
      .rw[q]at hb;cases hb
      .rw[k2]at q;cases q
    .rw[hlook]at hlu
     split at hlu
     .rename_i hu
      subst hu
      simp at hlu;subst hlu
      simp only[if_true]
      refine⟨fun bb ob hb=>?_,fun bb ob hb=>?_,k4,e3,rfl⟩
      .rcases hblock bb ob hb with⟨rfl,rfl⟩|⟨hbb,q|q⟩
       .exact setRow_heap w _ _ _ p.e (0,0) hblk
       .exact hoth bb ob hbb ((hM.tok p.t (o2 _ htl)).2.1 bb ob q)
       .exact hoth bb ob hbb (hliesf bb ob q)
      .rcases hblock bb ob hb with⟨rfl,rfl⟩|⟨hbb,q|q⟩
       .exact hmb
       .exact(hM.tok p.t (o2 _ htl)).2.2 bb ob q
       .obtain⟨u,u1,_,u3⟩:=o4 bb ob q
        exact(hM.tok u u1).2.2 bb ob u3
     .cases hlu
    .have key: ∀u,u∈live'->u≠p.t->(gh.F u).apart ((Ac.one b (.cells (Bn cur.toList (p.i*p.cs.length+p.off) (a.eval y).cells.toList).toArray p.e (0,0))).join ((gh.F p.t).join f)):=fun u hu hne bb=>by
      cases e:((Ac.one b (.cells (Bn cur.toList (p.i*p.cs.length+p.off) (a.eval y).cells.toList).toArray p.e (0,0))).join ((gh.F p.t).join f)) bb with
      |none=>exact .inr rfl
      |some ob=>
       left
       rcases hblock bb ob e with⟨rfl,rfl⟩|⟨hbb,q|q⟩
       .rcases hM.apart u p.t (o2 u hu) (o2 _ htl) hne bb with q|q
        .exact q
        .rw[k2]at q;cases q
       .rcases hM.apart u p.t (o2 u hu) (o2 _ htl) hne bb with q'|q'
        .exact q'
        .rw[q]at q';cases q'
       .obtain⟨u2,v1,v2,v3⟩:=o4 bb ob q
        have hne2:u≠u2:=fun e=>v2 (e▸hu)
        rcases hM.apart u u2 (o2 u hu) v1 hne2 bb with q'|q'
        .exact q'
        .rw[q']at v3;cases v3
     by_cases h1:u=p.t
     .by_cases h2:u'=p.t
      .exact(hne (h1.trans h2.symm)).elim
      .simp only[h1,h2,if_true,if_false];exact Ac.apart_symm (key u' hu' h2)
     .by_cases h2:u'=p.t
      .simp only[h1,h2,if_true,if_false];exact key u hu h1
      .simp only[h1,h2,if_false];exact hM.apart u u' (o2 u hu) (o2 u' hu') hne
    .by_cases h1:u=p.t
     .simp only[h1,if_true]
      cases e:((Ac.one b (.cells (Bn cur.toList (p.i*p.cs.length+p.off) (a.eval y).cells.toList).toArray p.e (0,0))).join ((gh.F p.t).join f)) (gh.B kk)with
      |none=>rfl
      |some ob=>
       exfalso
       rcases hblock _ ob e with⟨q,_⟩|⟨hbb,q|q⟩
       .have:=hM.tokBox p.t kk (o2 _ htl) hkk
        rw[q,k2]at this;cases this
       .rw[hM.tokBox p.t kk (o2 _ htl) hkk]at q;cases q
       .obtain⟨u2,v1,v2,v3⟩:=o4 _ ob q
        rw[hM.tokBox u2 kk v1 hkk]at v3;cases v3
     .simp only[h1,if_false];exact hM.tokBox u kk (o2 u hu) hkk
    .obtain⟨vs,e,q1,_⟩:=hM.box kk _ (Gd hkk).choose_spec
     rw[setRow_other w b _ _ (fun e=>by
      have:=hM.tokBox p.t kk (o2 _ htl) hkk
      rw[e,k2]at this;cases this)]
   refine A8f (w':=w.setCells b (p.i*p.cs.length+p.off) (a.eval y).cells.toList) ?_ ?_
   .unfold execOp;rw[ho]
    have hlen2:(a.eval y).cells.size=T.shs.length:=by rw[<-hl1,hcs.len];simp
    have hst:(storeVar t ⟨b,p.i*p.cs.length+p.off,none⟩ (.agg (a.eval y).cells)).run P w= .ok () (w.setCells b (p.i*p.cs.length+p.off) (a.eval y).cells.toList):=by
     refine run_storeVar_mid w _ _ _ _ (fun j hj=>?_) (by rw[i1];simp[i2,hlen2]) (Array.all_eq_true_iff_forall_mem.2 fun v hv=>hcs.one v (by simpa using hv))
     rw[cell_of_row _ _ _ _ _ _ hblk,frozen_of_row _ _ _ _ _ hblk]
     have:p.i*p.cs.length+p.off+j<cur.size:=by simp at k3 hj;omega
     simp[this]
    simp only[hv,Instr.storeAt,Instr.sureAddr,Sem.run_bind,Sem.run_pure,Result.andThen_ok,hsame,hst]
   .rw[hsp]
    exact hn _ _ _ _ undef _ h hst (Turn.rm hM hTn) (Turn.env hM hTn hE) trivial
  .rename_i hgive
   obtain⟨hfr,h⟩:=Bb h
   obtain⟨st',hst⟩:=hk _ _ h
   obtain⟨live',heat,hst2⟩:=B2e hst
   subst hst2
   obtain⟨m1,m2⟩:=N9 heat hM.nodup
   have htl:p.t∈st.live:=m2 p.t (by simp)
   have htn:p.t∉live':=fun hm=>((m1 p.t).1 hm).2 (by simp)
   have hsub: ∀u,u∈live'->u∈st.live:=fun u hu=>((m1 u).1 hu).1
   have hnd:live'.Nodup:=(Vo heat hM.nodup).2
   have hcs:=VRv.cells hvq
   obtain⟨b,off,hv,_,hpl⟩:=hvp
   obtain⟨_,hpl⟩:=hpl
   obtain⟨⟨e1,e2,e3,e4⟩,n,cap,hV,hoff⟩:=hpl htl
   have hlen:(a.eval y).cells.toList.length=xs.length:=hcs.len.symm
   have hfrom:Amp (gh.F p.t) (gh.V p.t) xs (a.eval y).cells.toList:=Adi htl hcs hfr
   obtain⟨b',n',cap',cur,k1,k2,k3,k4⟩:=Bf.frz e1 e4 hfrom hd' (by rw[hlen];exact hfit)
   rw[hV]at k1
   cases k1
   subst hoff
   have hblk:=(hM.tok p.t htl).2.1 b _ k2
   have hmb:=(hM.tok p.t htl).2.2 b _ k2
   have hsp:w.setCells b (p.i*p.cs.length+p.off) (a.eval y).cells.toList=w.setRow b (Bn cur.toList (p.i*p.cs.length+p.off) (a.eval y).cells.toList).toArray:=by
    rw[Ab4 b p.e (a.eval y).cells.toList (p.i*p.cs.length+p.off) cur w hblk k3]
    rfl
   have hoth: ∀bb ob,bb≠b->w.heap[bb]? =some ob->(w.setRow b (Bn cur.toList (p.i*p.cs.length+p.off) (a.eval y).cells.toList).toArray).heap[bb]? =some ob:=fun bb ob hne hw=>by
    rw[setRow_other w b bb _ hne];exact hw
   have hnotb: ∀u,u∈live'->gh.F u b=none:=fun u hu=>by
    have hne:u≠p.t:=fun e=>htn (e▸hu)
    rcases hM.apart u p.t (hsub u hu) htl hne b with q|q
    .exact q
    .rw[k2]at q;cases q
   have hTn:Turn cx gh st w (w.setRow b (Bn cur.toList (p.i*p.cs.length+p.off) (a.eval y).cells.toList).toArray) live' [] gh.F:=by
    refine⟨hM.moved.row hmb _,hsub,hnd,fun u hu=>(by cases hu),fun u hu _=>⟨rfl,fun bb ob hb=>hoth bb ob (fun e=>?_) ((hM.tok u (hsub u hu)).2.1 bb ob hb)⟩,fun u s hlu=>(by cases hlu),fun u u' hu hu' hne=>hM.apart u u' (hsub u hu) (hsub u' hu') hne,
     fun u kk hu hkk=>hM.tokBox u kk (hsub u hu) hkk,fun kk hkk=>?_⟩
    .subst e;rw[hnotb u hu]at hb;cases hb
    .rw[setRow_other w b _ _ (fun e=>by
      have:=hM.tokBox p.t kk htl hkk
      rw[e,k2]at this;cases this)]
   have hblock: ∀bb ob,((Ac.one b (.cells (Bn cur.toList (p.i*p.cs.length+p.off) (a.eval y).cells.toList).toArray p.e (0,0))).join (gh.F p.t)) bb=some ob->(bb=b/\ob= .cells (Bn cur.toList (p.i*p.cs.length+p.off) (a.eval y).cells.toList).toArray p.e (0,0))\/(bb≠b/\gh.F p.t bb=some ob):=fun bb ob hb=>by
    by_cases hbb:bb=b
    .left
     subst hbb
     simp[Ac.join,Ac.one]at hb
     exact⟨rfl,hb.symm⟩
    .right
     simp only[Ac.join,Ac.one,hbb,if_false,Option.none_or]at hb
     exact⟨hbb,hb⟩
   have hlf:Bu ((Ac.one b (.cells (Bn cur.toList (p.i*p.cs.length+p.off) (a.eval y).cells.toList).toArray p.e (0,0))).join (gh.F p.t)) (w.setRow b (Bn cur.toList (p.i*p.cs.length+p.off) (a.eval y).cells.toList).toArray):=fun bb ob hb=>by
    rcases hblock bb ob hb with⟨rfl,rfl⟩|⟨hbb,q⟩
    .exact setRow_heap w _ _ _ p.e (0,0) hblk
    .exact hoth bb ob hbb ((hM.tok p.t htl).2.1 bb ob q)
   have hmine: ∀bb ob,((Ac.one b (.cells (Bn cur.toList (p.i*p.cs.length+p.off) (a.eval y).cells.toList).toArray p.e (0,0))).join (gh.F p.t)) bb=some ob->Fu cx bb:=fun bb ob hb=>by
    rcases hblock bb ob hb with⟨rfl,rfl⟩|⟨hbb,q⟩
    .exact hmb
    .exact(hM.tok p.t htl).2.2 bb ob q
   have hapf: ∀u,u∈live'->(gh.F u).apart ((Ac.one b (.cells (Bn cur.toList (p.i*p.cs.length+p.off) (a.eval y).cells.toList).toArray p.e (0,0))).join (gh.F p.t)):=fun u hu bb=>by
    cases e:((Ac.one b (.cells (Bn cur.toList (p.i*p.cs.length+p.off) (a.eval y).cells.toList).toArray p.e (0,0))).join (gh.F p.t)) bb with
    |none=>exact .inr rfl
    |some ob=>
     left
     rcases hblock bb ob e with⟨rfl,rfl⟩|⟨hbb,q⟩
     .exact hnotb u hu
     .have hne:u≠p.t:=fun e=>htn (e▸hu)
      rcases hM.apart u p.t (hsub u hu) htl hne bb with q'|q'
      .exact q'
      .rw[q]at q';cases q'
   have hboxf: ∀kk,st.has kk=true->((Ac.one b (.cells (Bn cur.toList (p.i*p.cs.length+p.off) (a.eval y).cells.toList).toArray p.e (0,0))).join (gh.F p.t)) (gh.B kk)=none:=fun kk hkk=>by
    cases e:((Ac.one b (.cells (Bn cur.toList (p.i*p.cs.length+p.off) (a.eval y).cells.toList).toArray p.e (0,0))).join (gh.F p.t)) (gh.B kk)with
    |none=>rfl
    |some ob=>
     exfalso
     rcases hblock _ ob e with⟨q,_⟩|⟨hbb,q⟩
     .have:=hM.tokBox p.t kk htl hkk
      rw[q,k2]at this;cases this
     .rw[hM.tokBox p.t kk htl hkk]at q;cases q
   refine A8f (w':=w.setCells b (p.i*p.cs.length+p.off) (a.eval y).cells.toList) ?_ ?_
   .unfold execOp;rw[ho]
    have hlen2:(a.eval y).cells.size=T.shs.length:=by rw[<-hl1,hcs.len];simp
    have hst:(storeVar t ⟨b,p.i*p.cs.length+p.off,none⟩ (.agg (a.eval y).cells)).run P w= .ok () (w.setCells b (p.i*p.cs.length+p.off) (a.eval y).cells.toList):=by
     refine run_storeVar_mid w _ _ _ _ (fun j hj=>?_) (by rw[i1];simp[i2,hlen2]) (Array.all_eq_true_iff_forall_mem.2 fun v hv=>hcs.one v (by simpa using hv))
     rw[cell_of_row _ _ _ _ _ _ hblk,frozen_of_row _ _ _ _ _ hblk]
     have:p.i*p.cs.length+p.off+j<cur.size:=by simp at k3 hj;omega
     simp[this]
    simp only[hv,Instr.storeAt,Instr.sureAddr,Sem.run_bind,Sem.run_pure,Result.andThen_ok,hsame,hst]
   .rw[hsp]
    exact hn _ _ _ _ undef _ h hst (Frz.rm hM hTn htl hlf hmine hapf hboxf (s:=⟨.sl p.e p.cs,p.l.set p.i d'⟩) k4) (Frz.env hM hTn htl hlf hapf (s:=⟨.sl p.e p.cs,p.l.set p.i d'⟩) k4 hE) trivial
 .cases h
end
end
section

theorem Bmt {f:Ac} {ms:List Nat} {outs:List RV} {v:Value} {vals:List Value} (hh:ms.headD 0=0) (hm:MOa f ms outs (v::vals)):MOa f ms.tail outs vals:=by
 unfold MOa at hm
 rw[hh]at hm
 cases outs<;>exact hm
theorem B0u {f:Ac} {ms:List Nat} {outs:List RV} {v:Value} {vals:List Value} (hh:ms.headD 0=1) (hm:MOa f ms outs (v::vals)): ∃o os g h,outs=o::os/\Fb f [g,h]/\OVv g o v/\MOa h ms.tail os vals:=by
 unfold MOa at hm
 rw[hh]at hm
 cases outs with
 |nil=>exact hm.elim
 |cons o os=>obtain⟨g,h,h1,h2,h3⟩:=hm;exact⟨o,os,g,h,rfl,h1,h2,h3⟩
theorem Bwp {G:A9} {cx:Cx} {g:Gh} {st:St} {x:Cl}: ∀ {ms:List Nat} {ps:List PV} {vals:List Value} {rs:List RV},Nr ms ps=some x->VRl cx g st ps vals->RdP G ms ps vals->D3 st ms ps=some rs->
  ∃v,CR cx g st x v/\(∀f,Bf f x.sh x.val v->AVa G f ms rs vals)/\ ∀f outs,MOa f ms outs vals-> ∃o,outs=[o]/\OVv f o v:=by
 have Ami: ∀ {ms:List Nat} {ps:List PV} {vals:List Value} {rs:List RV},(ms.all fun m=>Nat.beq m 0)=true->VRl cx g st ps vals->RdP G ms ps vals->D3 st ms ps=some rs->(∀f,AVa G f ms rs vals)/\ ∀f outs,MOa f ms outs vals->outs=[]:=by
  intro ms ps
  induction ps generalizing ms with
  |nil=>
   intro vals rs hz hv hrp hr
   cases vals with
   |cons _ _=>exact hv.elim
   |nil=>simp[D3]at hr;subst hr;exact⟨fun f=>trivial,fun f outs h=>h⟩
  |cons p ps ih=>
   intro vals rs hz hv hrp hr
   cases vals with
   |nil=>exact hv.elim
   |cons v vals=>
   have hh:ms.headD 0=0:=by
    cases ms with
    |nil=>rfl
    |cons m r=>simp only[List.all_cons,Bool.and_eq_true]at hz;exact Nat.eq_of_beq_eq_true hz.1
   have ht:(ms.tail.all fun m=>Nat.beq m 0)=true:=by
    cases ms with
    |nil=>rfl
    |cons m r=>simp only[List.all_cons,Bool.and_eq_true]at hz;exact hz.2
   cases p with
   |v a xs=>
    simp only[D3,hh]at hr
    obtain⟨l,hl,hr⟩:=Ah (show ob (D3 st ms.tail ps) (fun l=>some (strip (a,xs)::l))=some rs from hr)
    simp at hr;subst hr
    obtain⟨k1,k2⟩:=ih ht hv.2 hrp.2 hl
    refine⟨fun f=>⟨Ac.emp,f,⟨List.pairwise_cons.2 ⟨fun x _=>Ac.emp_apart x,List.pairwise_singleton _ _⟩,fun x hx=>?_⟩,?_,k1 f⟩,fun f outs hm=>?_⟩
    .simp at hx
     rcases hx with rfl|rfl
     .exact Ac.emp_sub _
     .exact Ac.sub_refl _
    .rw[hh];exact hrp.1 hh a xs rfl
    .exact k2 f outs (Bmt hh hm)
   |box b o=>
    cases o with
    |zero=>
     have h':(none:Option (List RV))=some rs:=by rw[<-hr];simp only[D3,hh];rfl
     cases h'
    |succ o=>simp[D3]at hr
   |any=>simp[D3]at hr
   |el _ _ _=>simp[D3]at hr
   |tup _=>simp[D3]at hr
 intro ms ps
 induction ps generalizing ms with
 |nil=>intro vals rs hx;simp[Nr]at hx
 |cons p ps ih=>
  intro vals rs hx hv hrp hr
  cases vals with
  |nil=>exact hv.elim
  |cons v vals=>
  cases p with
  |v a xs=>
   have skip:ms.headD 0=0->Nr ms.tail ps=some x-> ∃u,CR cx g st x u/\(∀f,Bf f x.sh x.val u->AVa G f ms rs (v::vals))/\ ∀f outs,MOa f ms outs (v::vals)-> ∃o,outs=[o]/\OVv f o u:=fun hh hx=>by
    simp only[D3,hh]at hr
    obtain⟨l,hl,hr⟩:=Ah (show ob (D3 st ms.tail ps) (fun l=>some (strip (a,xs)::l))=some rs from hr)
    simp at hr;subst hr
    obtain⟨u,k1,k2,k3⟩:=ih hx hv.2 hrp.2 hl
    refine⟨u,k1,fun f hf=>⟨Ac.emp,f,⟨List.pairwise_cons.2 ⟨fun x _=>Ac.emp_apart x,List.pairwise_singleton _ _⟩,fun x hx=>?_⟩,?_,k2 f hf⟩,fun f outs hm=>?_⟩
    .simp at hx
     rcases hx with rfl|rfl
     .exact Ac.emp_sub _
     .exact Ac.sub_refl _
    .rw[hh];exact hrp.1 hh a xs rfl
    .exact k3 f outs (Bmt hh hm)
   by_cases hone: ∃y,a=false/\xs=[y]
   .obtain⟨y,rfl,rfl⟩:=hone
    simp only[Nr]at hx
    cases h1:Nat.beq (ms.headD 0) 1 with
    |true=>
     rw[h1]at hx
     obtain⟨hz,hx⟩:=Bb hx
     simp at hx;subst hx
     have hh:=Nat.eq_of_beq_eq_true h1
     simp only[D3,hh]at hr
     obtain⟨l,hl,hr⟩:=Ah (show ob (D3 st ms.tail ps) (fun l=>some (strip (false,[y])::l))=some rs from hr)
     simp at hr;subst hr
     obtain⟨k1,k2⟩:=Ami hz hv.2 hrp.2 hl
     refine⟨v,hv.1.1,fun f hf=>⟨f,Ac.emp,⟨List.pairwise_cons.2 ⟨fun x hx=>by simp at hx;subst hx;exact Ac.apart_emp _,List.pairwise_singleton _ _⟩,fun x hx=>?_⟩,?_,k1 _⟩,fun f outs hm=>?_⟩
     .simp at hx
      rcases hx with rfl|rfl
      .exact Ac.sub_refl _
      .exact Ac.emp_sub _
     .rw[hh]
      exact⟨f,Ac.emp,⟨List.pairwise_cons.2 ⟨fun x hx=>by simp at hx;subst hx;exact Ac.apart_emp _,List.pairwise_singleton _ _⟩,fun x hx=>by
       simp at hx
       rcases hx with rfl|rfl
       .exact Ac.sub_refl _
       .exact Ac.emp_sub _⟩,hf,trivial⟩
     .obtain⟨o,os,g1,g2,rfl,hp,ho,hr⟩:=B0u hh hm
      have:=k2 g2 os hr
      subst this
      refine⟨o,rfl,?_⟩
      have hsub:=hp.2 g1 (by simp)
      obtain⟨oa,oy⟩:=o
      have osub: ∀ {xs:List Sg} {vs:List Value} {f g:Ac},OVs f xs vs->f.sub g->OVs g xs vs:=by
       intro xs vs f g h hs
       cases xs with
       |nil=>cases vs with|nil=>trivial|cons _ _=>exact h.elim
       |cons x xs=>cases vs with
        |nil=>exact h.elim
        |cons v vs=>obtain⟨p,q,h1,h2,h3⟩:=h;exact⟨p,q,h1.sub hs,h2,h3⟩
      cases oa with
      |true=>obtain⟨vs,e,ho⟩:=ho;exact⟨vs,e,osub ho hsub⟩
      |false=>exact osub (xs:=oy) (vs:=[v]) ho hsub
    |false=>
     rw[h1]at hx
     simp only[cond_false]at hx
     cases h0:Nat.beq (ms.headD 0) 0 with
     |false=>rw[h0]at hx;cases hx
     |true=>rw[h0]at hx;exact skip (Nat.eq_of_beq_eq_true h0) hx
   .have hx':cond (Nat.beq (ms.headD 0) 0) (Nr ms.tail ps) none=some x:=by
     unfold Nr at hx
     split at hx
     .rename_i y _ he
      simp only[List.cons.injEq,PV.v.injEq]at he
      exact(hone ⟨y,he.1.1,he.1.2⟩).elim
     .rename_i he
      simp only[List.cons.injEq,PV.v.injEq]at he
      obtain⟨_,rfl⟩:=he
      exact hx
     .cases hx
    cases h0:Nat.beq (ms.headD 0) 0 with
    |false=>rw[h0]at hx';cases hx'
    |true=>rw[h0]at hx';exact skip (Nat.eq_of_beq_eq_true h0) hx'
  |any=>simp[Nr]at hx
  |box _ _=>simp[Nr]at hx
  |el _ _ _=>simp[Nr]at hx
  |tup _=>simp[Nr]at hx
end
section

section
variable {cx:Cx} {gh:Gh} {st:St} {w:World} (hM:RM cx gh st w) {K:List Nat} (hK: ∀t,t∈K->t∈st.live)
include hM hK
theorem Bhk:Ez (Et cx K gh.F gh.V gh.S) w:=fun b o x hx=>by
 rcases Jb hx with h|⟨t,ht,h,_⟩
 .exact hM.lies _ _ _ (hM.g0 _ _ _ h)
 .exact Bu.cell (hM.tok t (hK t ht)).2.1 h
theorem Bqp {b o:Nat} {x:Value} (h:Axa cx K gh.F gh.V gh.S b o x):Et cx K gh.F gh.V gh.S b o=some x:=
 Ak4 (w:=w) (fun b o x h=>by
  rcases h with h|⟨t,ht,h,_⟩
  .exact hM.lies _ _ _ (hM.g0 _ _ _ h)
  .exact Bu.cell (hM.tok t (hK t ht)).2.1 h) h
theorem Axd: ∀ {xs:List Cl} {vs:List Value} {rd:List (Nat×Sg)},CRs cx gh st xs vs->A3x xs=some rd->(∀u,u∈rd->u.1∈K)->RVs (Et cx K gh.F gh.V gh.S) (xs.map fun c=>⟨c.sh,c.val⟩) vs/\
  ∀u,u∈rd-> ∃v,Bf (gh.F u.1) u.2.sh u.2.val v/\v=gh.V u.1/\Kr u.2.sh=gh.S u.1/\Ep u.2.sh=true
 |[],[],rd,_,h,_=>by simp[A3x]at h;subst h;exact⟨trivial,fun u hu=>by cases hu⟩
 |x::xs,v::vs,rd,hc,h,hk=>by
  simp only[A3x]at h
  obtain⟨r,hr,h⟩:=Ah h
  obtain⟨sh,val,tok⟩:=x
  have hG0:cx.G0.sub (Et cx K gh.F gh.V gh.S):=fun b o y hy=>Bqp hM hK (.inl hy)
  obtain⟨⟨h1,h2⟩,h3⟩:=hc
  have go:(rd=r)->RdD (Et cx K gh.F gh.V gh.S) sh val v->RVs (Et cx K gh.F gh.V gh.S) ((⟨sh,val,tok⟩::xs).map fun c=>⟨c.sh,c.val⟩) (v::vs)/\ ∀u,u∈rd-> ∃v,Bf (gh.F u.1) u.2.sh u.2.val v/\v=gh.V u.1/\Kr u.2.sh=gh.S u.1/\Ep u.2.sh=true:=fun e hrd=>by
   subst e
   obtain⟨k1,k2⟩:=Axd h3 hr hk
   exact⟨⟨hrd,k1⟩,k2⟩
  cases hs:Ep sh with
  |false=>
   refine go ?_ (RdD.scalar hs h1)
   cases sh with
   |sl e cs=>cases hs
   |_=>simp at h;exact h.symm
  |true=>
   cases sh with
   |sl e cs=>
    cases tok with
    |ro=>simp at h;exact go h.symm (RdD.sub hG0 _ _ _ h2)
    |pin j=>simp at h;exact go h.symm (RdD.sub hG0 _ _ _ h2.1)
    |nil=>
     simp at h
     obtain⟨a,ha⟩:=h2 e cs rfl
     exact go h.symm (A2z h1 ha _)
    |own t=>
     simp at h;subst h
     have ht:=hk (t,⟨.sl e cs,val⟩) (by simp)
     obtain⟨k1,k2⟩:=Axd h3 hr (fun u hu=>hk u (by simp[hu]))
     obtain⟨q1,q2,q3,q4,q5⟩:=h2.2 (hK t ht)
     refine⟨⟨Bf.rdIn (.sl e cs) (gh.F t) val v _ q1 (fun b o x hx hlt=>Bqp hM hK (.inr ⟨t,ht,hx,fun n cap hvt=>?_⟩)),k1⟩,fun u hu=>?_⟩
     .have:=hlt n cap (q3.trans hvt)
      rw[<-q4];exact this
     .rcases List.mem_cons.1 hu with e1|hu
      .subst e1;exact⟨v,q1,q3,q4,q5⟩
      .exact k2 u hu
    |rd=>cases h
    |row t=>cases h
    |elt _ _ _ _ _ _ _=>cases h
    |bag _ _=>cases h
    |one _ _ _=>cases h
    |nst _=>cases h
    |grd _=>cases h
    |prt _ _ _ _ _=>cases h
   |_=>cases hs
 |[],_::_,_,h,_,_=>h.elim
 |_::_,[],_,h,_,_=>h.elim
theorem Axe: ∀ {ms:List Nat} {ps:List PV} {vals:List Value} {rd:List (Nat×Sg)},VRl cx gh st ps vals->Ab6 ms ps=some rd->(∀u,u∈rd->u.1∈K)->RdP (Et cx K gh.F gh.V gh.S) ms ps vals/\
  ∀u,u∈rd-> ∃v,Bf (gh.F u.1) u.2.sh u.2.val v/\v=gh.V u.1/\Kr u.2.sh=gh.S u.1/\Ep u.2.sh=true
 |ms,[],[],rd,_,h,_=>by simp[Ab6]at h;subst h;exact⟨trivial,fun u hu=>by cases hu⟩
 |ms,p::ps,v::vals,rd,hv,h,hk=>by
  cases p with
  |v a xs=>
   simp only[Ab6]at h
   obtain⟨q,hq,h⟩:=Ah h
   cases h0:Nat.beq (ms.headD 0) 0 with
   |true=>
    rw[h0]at h
    obtain⟨p,hp,h⟩:=Ah (show ob (A3x xs) (fun p=>some (p++q))=some rd from h)
    simp at h;subst h
    obtain⟨k1,k2⟩:=Axe hv.2 hq (fun u hu=>hk u (by simp[hu]))
    have key:RVv (Et cx K gh.F gh.V gh.S) (strip (a,xs)) v/\ ∀u,u∈p-> ∃v,Bf (gh.F u.1) u.2.sh u.2.val v/\v=gh.V u.1/\Kr u.2.sh=gh.S u.1/\Ep u.2.sh=true:=by
     cases a with
     |true=>
      obtain⟨vs,e,hc⟩:=hv.1
      obtain⟨a1,a2⟩:=Axd hM hK hc hp (fun u hu=>hk u (by simp[hu]))
      exact⟨⟨vs,e,a1⟩,a2⟩
     |false=>exact Axd hM hK (vs:=[v]) hv.1 hp (fun u hu=>hk u (by simp[hu]))
    refine⟨⟨fun _ a' xs' he=>(by cases he;exact key.1),k1⟩,fun u hu=>?_⟩
    rcases List.mem_append.1 hu with h1|h1
    .exact key.2 u h1
    .exact k2 u h1
   |false=>
    rw[h0]at h
    simp at h;subst h
    obtain⟨k1,k2⟩:=Axe hv.2 hq hk
    exact⟨⟨fun hz=>(by rw[hz]at h0;cases h0),k1⟩,k2⟩
  |any=>simp[Ab6]at h
  |box _ _=>simp[Ab6]at h
  |el _ _ _=>simp[Ab6]at h
  |tup _=>simp[Ab6]at h
 |_,[],_::_,_,h,_,_=>h.elim
 |_,_::_,[],_,h,_,_=>h.elim
end
theorem Bhl {cx:Cx} {gh:Gh} {st:St} {w:World} (hM:RM cx gh st w) {K:List Nat} {b:Nat} (hb:Fu cx b) (hF: ∀t,t∈K->gh.F t b=none) (o:Nat):Et cx K gh.F gh.V gh.S b o=none:=by
 cases hg:Et cx K gh.F gh.V gh.S b o with
 |none=>rfl
 |some x=>
  exfalso
  rcases Jb hg with h|⟨t,ht,h,_⟩
  .obtain⟨h1,h2⟩:=hM.old b o x h
   rcases hb with q|q
   .omega
   .rw[h2]at q;cases q
  .unfold B9 Ac.cell at h;rw[hF t ht]at h;cases h
theorem Bhm {t:Nat} {us rd:List (Nat×Sg)}:E6 t (us++rd)=match E6 t us with|some s=>some s|none=>E6 t rd:=by
 induction us with
 |nil=>rfl
 |cons u us ih=>
  obtain⟨v,x⟩:=u
  simp only[List.cons_append,E6]
  cases Nat.beq t v with
  |true=>rfl
  |false=>exact ih
theorem Bwq {cx:Cx} {gh:Gh} {st:St} {w w':World} (hM:RM cx gh st w) {fr gm f:Ac} {live':List Nat} {us rd:List (Nat×Sg)} {fs:List (Nat×Ac)} (hsub: ∀t,t∈live'->t∈st.live) (hnd:live'.Nodup)
  (hmv:Moved fr w w') (hlg:Bu gm w') (hng:gm.newOr fr w.heap.size) (hfr: ∀b o,fr b=some o->Fu cx b/\ ∀k,st.has k=true->gh.B k≠b)
  (huf:UF gh us fs) (hpw:(fs.map fun p=>p.2).Pairwise Ac.apart) (hsg: ∀p,p∈fs->p.2.sub gm)
  (hkeys: ∀u,u∈us++rd->u.1∈live')
  (hfrF: ∀t,t∈live'->E6 t us=none->(gh.F t).apart fr)
  (hrd: ∀u,u∈rd-> ∃v,Bf (gh.F u.1) u.2.sh u.2.val v/\v=gh.V u.1/\Kr u.2.sh=gh.S u.1/\Ep u.2.sh=true)
  (hnk:(us.map fun u=>u.1).Nodup):
  Turn cx gh st w w' live' (us++rd) (fun t=>match Sv t fs with|some f=>f|none=>gh.F t):=by
 have hblk: ∀b ob,fr b=none->w.heap[b]? =some ob->w'.heap[b]? =some ob:=fun b ob hn ho=>by
  rw[hmv.block b (Array.getElem?_eq_some_iff.1 ho).1 hn];exact ho
 have hLF: ∀t,t∈live'->E6 t us=none->Bu (gh.F t) w':=fun t ht hu b ob hb=>by
  refine hblk b ob ?_ ((hM.tok t (hsub t ht)).2.1 b ob hb)
  rcases hfrF t ht hu b with q|q
  .rw[hb]at q;cases q
  .exact q
 have hgmine: ∀b o,gm b=some o->Fu cx b:=fun b o hb=>by
  rcases hng b o hb with q|q
  .cases e:fr b with
   |none=>exact(q e).elim
   |some x=>exact(hfr b x e).1
  .exact .inl (Nat.le_trans hM.moved.size q)
 have hgF: ∀t,t∈live'->E6 t us=none->(gh.F t).apart gm:=fun t ht hu b=>by
  cases e:gm b with
  |none=>exact .inr rfl
  |some o=>
   left
   rcases hng b o e with q|q
   .rcases hfrF t ht hu b with q'|q'
    .exact q'
    .exact(q q').elim
   .exact(Es hM q).2.1 t (hsub t ht)
 have hfsk: ∀ {us:List (Nat×Sg)} {fs:List (Nat×Ac)},UF gh us fs->fs.map (fun p=>p.1)=us.map (fun u=>u.1):=by
  intro us
  induction us with
  |nil=>intro fs h;cases fs with|nil=>rfl|cons _ _=>exact h.elim
  |cons u us ih=>intro fs h;cases fs with
   |nil=>exact h.elim
   |cons p fs=>simp only[List.map_cons];rw[h.1,ih h.2.2]
 refine⟨Bce hM.moved hmv (fun b o hb=>(hfr b o hb).1),hsub,hnd,hkeys,fun t ht hlu=>?_,fun t s hlu=>?_,fun t u ht hu hne=>?_,fun t k ht hk=>?_,fun k hk=>?_⟩
 .rw[Bhm]at hlu
  cases hq:E6 t us with
  |some s=>rw[hq]at hlu;cases hlu
  |none=>
   have:=(huf.look (t:=t)).2 hq
   simp only[this]
   exact⟨trivial,hLF t ht hq⟩
 .rw[Bhm]at hlu
  cases hq:E6 t us with
  |some s'=>
   rw[hq]at hlu
   simp at hlu;subst hlu
   obtain⟨f,k1,k2,k3,k4,k5⟩:=(huf.look (t:=t)).1 _ hq
   simp only[k1]
   exact⟨hlg.sub (hsg _ k2),fun b o hb=>hgmine b o (hsg _ k2 b o hb),k3,k4,k5⟩
  |none=>
   rw[hq]at hlu
   simp only at hlu
   have h0:=(huf.look (t:=t)).2 hq
   simp only[h0]
   have hm:=Amo hlu
   have ht:t∈live':=hkeys (t,s) (List.mem_append.2 (.inr hm))
   obtain⟨v,q1,q2,q3,q4⟩:=hrd _ hm
   simp only at q1 q2 q3 q4
   exact⟨hLF t ht hq,(hM.tok t (hsub t ht)).2.2,by rw[<-q2];exact q1,q3,q4⟩
 .have look: ∀t,(∃s f,E6 t us=some s/\Sv t fs=some f/\(t,f)∈fs)\/(E6 t us=none/\Sv t fs=none):=fun t=>by
   cases hq:E6 t us with
   |some s=>obtain⟨f,k1,k2,_⟩:=(huf.look (t:=t)).1 _ hq;exact .inl ⟨s,f,rfl,k1,k2⟩
   |none=>exact .inr ⟨rfl,(huf.look (t:=t)).2 hq⟩
  rcases look t with⟨s,f,a1,a2,a3⟩|⟨a1,a2⟩
  .rcases look u with⟨s',f',b1,b2,b3⟩|⟨b1,b2⟩
   .simp only[a2,b2]
    have: ∀ {fs:List (Nat×Ac)},(fs.map fun p=>p.2).Pairwise Ac.apart->(fs.map fun p=>p.1).Nodup->(t,f)∈fs->(u,f')∈fs->f.apart f':=by
     intro fs
     induction fs with
     |nil=>intro _ _ h;cases h
     |cons p fs ih=>
      intro hp hn h1 h2
      simp only[List.map_cons]at hp hn
      rcases List.mem_cons.1 h1 with e1|h1
      .rcases List.mem_cons.1 h2 with e2|h2
       .rw[<-e1]at e2
        injection e2 with e3 _
        exact(hne e3.symm).elim
       .have:=(List.pairwise_cons.1 hp).1 f' (List.mem_map.2 ⟨_,h2,rfl⟩)
        rw[<-e1]at this;exact this
      .rcases List.mem_cons.1 h2 with e2|h2
       .have:=(List.pairwise_cons.1 hp).1 f (List.mem_map.2 ⟨_,h1,rfl⟩)
        rw[<-e2]at this;exact Ac.apart_symm this
       .exact ih (List.pairwise_cons.1 hp).2 (List.nodup_cons.1 hn).2 h1 h2
    exact this hpw (by rw[hfsk huf];exact hnk) a3 b3
   .simp only[a2,b2]
    exact Ac.apart_symm (Ac.apart_sub (hgF u hu b1) (Ac.sub_refl _) (hsg _ a3))
  .rcases look u with⟨s',f',b1,b2,b3⟩|⟨b1,b2⟩
   .simp only[a2,b2]
    exact Ac.apart_sub (hgF t ht a1) (Ac.sub_refl _) (hsg _ b3)
   .simp only[a2,b2]
    exact hM.apart t u (hsub t ht) (hsub u hu) hne
 .cases hq:E6 t us with
  |none=>
   simp only[(huf.look (t:=t)).2 hq]
   exact hM.tokBox t k (hsub t ht) hk
  |some s=>
   obtain⟨f,k1,k2,_⟩:=(huf.look (t:=t)).1 _ hq
   simp only[k1]
   cases e:f (gh.B k)with
   |none=>rfl
   |some o=>
    exfalso
    rcases hng _ o (hsg _ k2 _ _ e)with q|q
    .cases e':fr (gh.B k)with
     |none=>exact q e'
     |some x=>exact(hfr _ x e').2 k hk rfl
    .exact(Es hM q).2.2 k hk rfl
 .obtain⟨vs,e,q1,_⟩:=hM.box k _ (Gd hk).choose_spec
  rw[q1]
  refine hblk _ _ ?_ q1
  cases e':fr (gh.B k)with
  |none=>rfl
  |some x=>exact((hfr _ x e').2 k hk rfl).elim
end
section

theorem Ac.less_or {f g:Ac} (hg:g.sub f) {k:Nat} {o:Obj} (h:(f.less g) k=some o):f k=some o/\g k=none:=by
 refine⟨Ac.less_sub _ _ k o h,?_⟩
 rcases Ac.less_apart f g k with q|q
 .rw[h]at q;cases q
 .exact q
theorem Bhn: ∀ {xs:List Cl} {ys:List Sg} {l:List Nat} {u:List (Nat×Sg)},T7 xs=some l->Aps xs ys=some u->(u.map fun u=>u.1).Sublist l
 |[],[],l,u,h,k=>by simp[T7]at h;simp[Aps]at k;subst h k;exact .slnil
 |x::xs,y::ys,l,u,h,k=>by
  simp only[T7]at h
  obtain⟨l1,h1,h⟩:=Ah h
  obtain⟨l2,h2,h⟩:=Ah h
  simp at h;subst h
  simp only[Aps]at k
  obtain⟨r,hr,k⟩:=Ah k
  have ih:=Bhn h2 hr
  split at k
  .rename_i e cs t d
   obtain⟨_,k⟩:=Bb k
   simp at k;subst k
   simp[Ss]at h1;subst h1
   exact ih.cons_cons t
  .rename_i hno
   simp at k;subst k
   exact ih.trans (List.sublist_append_right _ _)
 |[],_::_,_,_,_,k=>by simp[Aps]at k
 |_::_,[],_,_,_,k=>by simp[Aps]at k
theorem A8j: ∀ {ms:List Nat} {ps:List PV} {outs:List RV} {gv:List Nat×List Nat} {us:List (Nat×Sg)},L4 ms ps=some gv->Pr ms ps outs=some us->(us.map fun u=>u.1).Sublist gv.2
 |ms,[],[],gv,us,h,k=>by simp[Pr]at k;subst k;simp
 |ms,p::ps,outs,gv,us,h,k=>by
  cases p with
  |v a xs=>
   simp only[L4]at h
   obtain⟨p',hp',h⟩:=Ah h
   simp only[Pr]at k
   split at k
   .rename_i h1
    rw[h1]at h
    cases outs with
    |nil=>cases k
    |cons o os=>
     simp only at h k
     obtain⟨l,hl,h⟩:=Ah h
     simp at h;subst h
     obtain⟨_,k⟩:=Bb k
     obtain⟨u,hu,k⟩:=Ah k
     obtain⟨w,hw,k⟩:=Ah k
     simp at k;subst k
     rw[List.map_append]
     exact(Bhn hl hu).append (A8j hp' hw)
   .have ih:=A8j hp' k
    split at h
    .simp at h;subst h;exact ih
    .obtain⟨l,hl,h⟩:=Ah h
     simp at h;subst h
     exact ih.trans (List.sublist_append_right _ _)
    .obtain⟨l,hl,h⟩:=Ah h
     simp at h;subst h
     exact ih.trans (List.sublist_append_right _ _)
    .cases h
  |any=>simp[Pr]at k
  |box _ _=>simp[Pr]at k
  |el _ _ _=>simp[Pr]at k
  |tup _=>simp[Pr]at k
 |_,[],_::_,_,_,_,k=>by simp[Pr]at k
theorem Bwr {ms:List Nat} {ps:List PV} {outs:List RV} {gv:List Nat×List Nat} {us:List (Nat×Sg)} (hn:gv.2.Nodup) (h:L4 ms ps=some gv) (k:Pr ms ps outs=some us):(us.map fun u=>u.1).Nodup/\ ∀u,u∈us->u.1∈gv.2:=by
 have hs:=A8j h k
 exact⟨hs.nodup hn,fun u hu=>hs.subset (List.mem_map.2 ⟨u,hu,rfl⟩)⟩
theorem CRs.rvs {cx:Cx} {g:Gh} {st:St}: ∀ {xs:List Cl} {vs:List Value},CRs cx g st xs vs->RVs g.G (xs.map fun c=>⟨c.sh,c.val⟩) vs
 |[],[],_=>trivial
 |x::xs,v::vs,h=>⟨h.1.1,CRs.rvs h.2⟩
 |[],_::_,h=>h.elim
 |_::_,[],h=>h.elim
theorem VRv.rvv {cx:Cx} {g:Gh} {st:St} {p:Bool×List Cl} {v:Value} (h:VRv cx g st p.1 p.2 v):RVv g.G (strip p) v:=by
 obtain⟨a,xs⟩:=p
 cases a with
 |true=>obtain⟨vs,e,h⟩:=h;exact⟨vs,e,h.rvs⟩
 |false=>exact CRs.rvs (vs:=[v]) h
theorem Bws {cx:Cx} {g:Gh} {st:St}: ∀ {ms:List Nat} {ps:List PV} {vals:List Value},VRl cx g st ps vals->RdP g.G ms ps vals
 |_,[],[],_=>trivial
 |ms,p::ps,v::vs,h=>⟨fun _ a xs e=>by subst e;exact VRv.rvv (p:=(a,xs)) h.1,Bws h.2⟩
 |_,[],_::_,h=>h.elim
 |_,_::_,[],h=>h.elim
theorem A8k {G H:A9}: ∀ {xs:List Sg} {vs:List Value},(xs.all fun s=> !Ep s.sh)=true->RVs G xs vs->RVs H xs vs
 |[],[],_,h=>h
 |s::ss,v::vs,hs,h=>by
  simp only[List.all_cons,Bool.and_eq_true]at hs
  exact⟨RdD.scalar (by simpa using hs.1) h.1,A8k hs.2 h.2⟩
 |[],_::_,_,h=>h.elim
 |_::_,[],_,h=>h.elim
theorem Bet: ∀ {xs:List Sg} {vs:List Value} {f:Ac},OVs f xs vs->RVs (B9 f) xs vs
 |[],[],_,_=>trivial
 |x::xs,v::vs,f,h=>by
  obtain⟨g,h',hp,h1,h2⟩:=h
  exact⟨RdD.sub (Jp (hp.2 g (by simp))) _ _ _ (Bf.rdIn x.sh g x.val v _ h1 (fun b o y hy _=>hy)),RVs.sub (Jp (hp.2 h' (by simp))) (Bet h2)⟩
 |[],_::_,_,h=>h.elim
 |_::_,[],_,h=>h.elim
theorem Bqq {G:A9}: ∀ {as:List RV} {ms:List Nat} {vals:List Value} {fr:Ac},Bb7 ms as=true->AVa G fr ms as vals->RVa (B9 fr) as vals
 |[],_,[],_,_,_=>trivial
 |x::as,ms,v::vals,fr,hf,h=>by
  simp only[Bb7,Bool.and_eq_true]at hf
  obtain⟨hf1,hf2⟩:=hf
  obtain⟨g,h',hp,h1,h2⟩:=h
  refine⟨?_,RVa.sub (Jp (hp.2 h' (by simp))) (Bqq hf2 h2)⟩
  generalize ms.headD 0=m at hf1 h1
  obtain⟨ag,xs⟩:=x
  cases m with
  |zero=>
   have hf1:(xs.all fun s=> !Ep s.sh)=true:=hf1
   cases ag with
   |true=>obtain⟨vs,e,h3⟩:=h1;exact⟨vs,e,A8k hf1 h3⟩
   |false=>exact A8k (vs:=[v]) hf1 h1
  |succ m=>
   have hs:(B9 g).sub (B9 fr):=Jp (hp.2 g (by simp))
   cases ag with
   |true=>obtain⟨vs,e,h3⟩:=h1;exact⟨vs,e,RVs.sub hs (Bet h3)⟩
   |false=>exact RVs.sub (vs:=[v]) hs (Bet h1)
 |[],_,_::_,_,_,h=>h.elim
 |_::_,_,[],_,_,h=>h.elim
theorem Bmu {w:World} {f:Ac} {b o:Nat} {x:Value} (hf:f b=w.heap[b]?) (h:w.cell? ⟨b,o,none⟩=some x):B9 f b o=some x:=by
 unfold B9 Ac.cell
 rw[hf]
 unfold World.cell? at h
 simp only at h
 cases e:w.heap[b]? with
 |none=>rw[e]at h;cases h
 |some ob=>
  rw[e]at h
  cases ob<;>simp_all
theorem A24 {cx:Cx} {g:Gh} {st:St} {n:Nat} (hs:(B9 (g.F n)).sub g.G) (hu:n∈st.used) (hv:g.V n=undef): ∀ {xs:List Sg} {vs:List Value},RVs (B9 (g.F n)) xs vs->CRs cx g st (xs.map fun s=>⟨s.sh,s.val,Jq s.sh (.grd n)⟩) vs
 |[],[],_=>trivial
 |s::ss,v::vs,h=>by
  refine⟨⟨RdD.sub hs _ _ _ h.1,?_⟩,A24 hs hu hv h.2⟩
  obtain⟨s,d⟩:=s
  cases s with
  |sl e cs=>exact⟨hu,fun _=>⟨h.1,hv⟩⟩
  |_=>intro _ _ e;cases e
 |[],_::_,h=>h.elim
 |_::_,[],h=>h.elim
theorem Bqr {cx:Cx} {g:Gh} {st:St} {n:Nat} (hs:(B9 (g.F n)).sub g.G) (hu:n∈st.used) (hv:g.V n=undef) {r:RV} {v:Value} (h:RVv (B9 (g.F n)) r v):VRv cx g st r.1 (r.2.map fun s=>⟨s.sh,s.val,Jq s.sh (.grd n)⟩) v:=by
 obtain⟨a,xs⟩:=r
 cases a with
 |true=>obtain⟨vs,e,h⟩:=h;exact⟨vs,e,A24 hs hu hv h⟩
 |false=>exact A24 hs hu hv (vs:=[v]) h
theorem Beu {cx:Cx} {g:Gh} {st:St} {n:Nat} (hs:(B9 (g.F n)).sub g.G) (hu:n∈st.used) (hv:g.V n=undef): ∀ {rs:List RV} {vs:List Value},RVa (B9 (g.F n)) rs vs->VRt cx g st (Bje n rs) vs
 |[],[],_=>trivial
 |r::rs,v::vs,h=>⟨Bqr hs hu hv h.1,Beu hs hu hv h.2⟩
 |[],_::_,h=>h.elim
 |_::_,[],h=>h.elim
theorem By1 {cx:Cx} {g:Gh} {st:St} {n:Nat} (hs:(B9 (g.F n)).sub g.G) (hu:n∈st.used) (hv:g.V n=undef) {rs:List RV} {v:Value} (h:Of (B9 (g.F n)) rs v):VR cx g st (Oe (Bje n rs)) v:=by
 match rs,h with
 |[],h=>obtain⟨vs,e,h⟩:=h;exact⟨vs,e,Beu hs hu hv h⟩
 |[r],h=>exact Bqr hs hu hv h
 |r::s::t,h=>obtain⟨vs,e,h⟩:=h;exact⟨vs,e,Beu hs hu hv h⟩
section
variable {P:Program} {g:Cfg} (hC:CfgOk P g) {cx:Cx} {gh:Gh} {st:St} {a:Act} {w:World} {nt:Nat} (hM:RM cx gh st w) (hE:Env nt cx gh st a)
 {o:Oper} {ρ:Type} {k:PV->Ef->Option ρ} {r:ρ} {next:Act->World->Prop} {Q:Exit->Act->World->Prop}
 (hk: ∀pv ef,k pv ef=some r-> ∃st',ef.app o.dst st=some st')
 (hn: ∀gh' pv ef st' v w',k pv ef=some r->ef.app o.dst st=some st'->RM cx gh' st' w'->Env nt cx gh' st' a->VR cx gh' st' pv v->next (a.put o.dst v) w')
include hC hM hE hk hn
theorem By2 {f:FuncId} {as:Array Operand} {ts:Array TypeId} {ms:List Nat} (ho:o.op= .call {callee:=.value (.func f),args:=as,argTypes:=ts}) (hkd:g.kind f= .lend ms) {ps:List PV} {vs:List RV} {rd:List (Nat×Sg)}
  (hps:N8 g.ty st as.toList ts.toList=some ps) (hvs:D3 st ms ps=some vs) (hrd:Ab6 ms ps=some rd) {s:Sh} {v:s.den} {t e:Nat} {cs:List Sh} {l:List (dens cs)} {i:Nat} {d:dens cs} {j:Nat} (hel:Nr ms ps=some ⟨s,v,.elt t e cs l i d j⟩)
  (h:((g.ctr f vs).run fun res=>match res.1,res.2 with
    |[(false,[⟨.int .i64,r⟩])],[(false,[y])]=>chk (!(rd.map fun u=>u.1).contains t) (ob (Ma cs d j [⟨y.sh,y.val,.nil⟩]) fun d'=>k (.v false [⟨.int .i64,r,.nil⟩]) (.rs [] [] ((t,⟨.sl e cs,l.set i d'⟩)::rd)))
    |_,_=>none)=some r):o.wp P a w next Q:=by
 obtain⟨res,hres,h⟩:=Tree.run_some h
 split at h
 .rename_i rr y hr1 hr2
  obtain⟨hnt,h⟩:=Bb h
  obtain⟨d',hd',h⟩:=Ah h
  obtain⟨st',hst⟩:=hk _ _ h
  obtain⟨live',heat,hkeys,_,hst2⟩:=Ar6 hst
  simp[eat]at heat;subst heat
  have htl:t∈st.live:=hkeys (t,⟨.sl e cs,l.set i d'⟩) (by simp)
  have hKl: ∀u,u∈rd->u.1∈st.live:=fun u hu=>hkeys u (by simp[hu])
  have hKm: ∀t',t'∈rd.map (fun u=>u.1)->t'∈st.live:=fun t' ht'=>by obtain⟨u,hu,rfl⟩:=List.mem_map.1 ht';exact hKl u hu
  have htr:t∉rd.map (fun u=>u.1):=by simpa using hnt
  have hvl:=Ah6 hE hps
  obtain⟨hrp,hrd2⟩:=Axe hM hKm hvl hrd (fun u hu=>List.mem_map.2 ⟨u,hu,rfl⟩)
  obtain⟨u,hcr,hava,hmoa⟩:=Bwp hel hvl hrp hvs
  obtain⟨_,hcr2⟩:=hcr
  obtain⟨⟨e1,e2,e3,e4⟩,hca,b,n,cap,hV,hcell⟩:=hcr2.2 htl
  obtain⟨gf,u',b',n',cap',hV',hcell',hgs,hgo,hfin⟩:=Bf.focus e1 e4 hca
  rw[hV]at hV'
  cases hV'
  rw[hcell]at hcell'
  cases hcell'
  have hdo:=hC.ctr f
  rw[hkd]at hdo
  have hlF:=(hM.tok t htl).2.1
  have hcall:=hdo vs res (as.toList.map a.eval) w (Et cx (rd.map fun u=>u.1) gh.F gh.V gh.S) gf hres (Bhk hM hKm) (hM.tok0 fun bb ob hob=>(hM.tok t htl).2.2 bb ob (hgs bb ob hob)) (hlF.sub hgs) (fun bb hbb oo=>by
   obtain⟨ob,hob⟩:=Option.isSome_iff_exists.1 hbb
   have hF:=hgs bb ob hob
   refine Bhl hM ((hM.tok t htl).2.2 bb ob hF) (fun t' ht'=>?_) oo
   have hne:t'≠t:=fun e=>htr (e▸ht')
   rcases hM.apart t' t (hKm t' ht') htl hne bb with q|q
   .exact q
   .rw[hF]at q;cases q) (hava gf hgo)
  unfold Oper.wp
  rw[Uc ho (hC.fn f vs _ hres)]
  refine hcall.mono ?_
  rintro ee w' ⟨v',ff,gm,rfl,hmv,hlf,hlg,hap,hnf,hng,hO,hm⟩
  show next (a.put o.dst v') w'
  obtain⟨o1,ho1,hoy⟩:=hmoa gm _ hm
  rw[hr2]at ho1
  simp only[List.cons.injEq,and_true]at ho1
  subst ho1
  obtain⟨p1,p2,hpp,hy,_⟩:=hoy
  have hyg:Bf gm y.sh y.val u:=Bf.sub _ _ _ _ _ hy (hpp.2 p1 (by simp))
  have hless:((gh.F t).less gf).apart gm:=fun bb=>by
   cases eg:gm bb with
   |none=>exact .inr rfl
   |some ob=>
    left
    cases el:((gh.F t).less gf) bb with
    |none=>rfl
    |some ob'=>
     exfalso
     obtain⟨k1,k2⟩:=Ac.less_or hgs el
     rcases hng bb ob eg with q|q
     .exact q k2
     .rw[(Es hM q).2.1 t htl]at k1;cases k1
  have hnew:=hfin gm y d' hless hyg hd'
  rw[hr1]at hO
  have hv':v'= .int .i64 rr/\(Lit.int .i64 rr).wf=true:=by
   obtain⟨q1,q2,_,q3,_⟩:=(show OVs ff [⟨.int .i64,rr⟩] [v']from hO)
   simpa only[Bf] using q3
  let F1:Ac:=((gh.F t).less gf).join gm
  have hliesF1:Bu F1 w':=Bu.join (fun bb ob hb=>by
   obtain⟨k1,k2⟩:=Ac.less_or hgs hb
   rw[hmv.block bb (Array.getElem?_eq_some_iff.1 (hlF bb ob k1)).1 k2];exact hlF bb ob k1) hlg
  have hmine: ∀bb ob,gf bb=some ob->Fu cx bb/\ ∀kk,st.has kk=true->gh.B kk≠bb:=fun bb ob hb=>by
   refine⟨(hM.tok t htl).2.2 bb ob (hgs bb ob hb),fun kk hkk he=>?_⟩
   have:=hM.tokBox t kk htl hkk
   rw[he,hgs bb ob hb]at this;cases this
  have hdirect:Turn cx gh st w w' st.live (((t,⟨.sl e cs,l.set i d'⟩):Nat×Sg)::rd) (fun t'=>match Sv t' [(t,F1)]with|some f=>f|none=>gh.F t'):=by
   have hb2: ∀bb ob,gf bb=none->w.heap[bb]? =some ob->w'.heap[bb]? =some ob:=fun bb ob hnn ho=>by
    rw[hmv.block bb (Array.getElem?_eq_some_iff.1 ho).1 hnn];exact ho
   have hlook: ∀t',(match Sv t' [(t,F1)]with|some f=>f|none=>gh.F t')=if t'=t then F1 else gh.F t':=fun t'=>by
    simp only[Sv];by_cases q:t'=t<;>simp[q]
   have hlk: ∀t',E6 t' (((t,⟨.sl e cs,l.set i d'⟩):Nat×Sg)::rd)=if t'=t then some ⟨.sl e cs,l.set i d'⟩else E6 t' rd:=fun t'=>by
    simp only[E6]
    by_cases q:t'=t
    .subst q;simp
    .have:Nat.beq t' t=false:=by
      cases hb:Nat.beq t' t with
      |false=>rfl
      |true=>exact(q (Nat.eq_of_beq_eq_true hb)).elim
     rw[this,if_neg q];rfl
   have hoff: ∀t',t'∈st.live->t'≠t->(gh.F t').apart gf:=fun t' ht' hne=>Ac.apart_sub (hM.apart t' t ht' htl hne) (Ac.sub_refl _) hgs
   have hF1b: ∀bb ob,F1 bb=some ob->gh.F t bb=some ob/\gf bb=none\/(gm bb=some ob/\(gf bb≠none\/w.heap.size<=bb)):=fun bb ob hb=>by
    simp only[F1,Ac.join]at hb
    cases el:((gh.F t).less gf) bb with
    |some x=>rw[el]at hb;simp at hb;subst hb;exact .inl (Ac.less_or hgs el)
    |none=>rw[el]at hb;simp at hb;exact .inr ⟨hb,hng bb ob hb⟩
   have hapF: ∀t',t'∈st.live->t'≠t->(gh.F t').apart F1:=fun t' ht' hne bb=>by
    cases eF:F1 bb with
    |none=>exact .inr rfl
    |some ob=>
     left
     rcases hF1b bb ob eF with⟨q,_⟩|⟨q,q'|q'⟩
     .rcases hM.apart t' t ht' htl hne bb with z|z
      .exact z
      .rw[q]at z;cases z
     .rcases hoff t' ht' hne bb with z|z
      .exact z
      .exact(q' z).elim
     .exact(Es hM q').2.1 t' ht'
   refine⟨Bce hM.moved hmv (fun b o hb=>(hmine b o hb).1),fun _ h=>h,hM.nodup,hkeys,fun t' ht' hlu=>?_,fun t' s' hlu=>?_,fun t1 t2 h1 h2 hne=>?_,fun t' kk ht' hkk=>?_,fun kk hkk=>?_⟩
   .rw[hlk]at hlu
    split at hlu
    .cases hlu
    .rename_i hne
     rw[hlook,if_neg hne]
     refine⟨rfl,fun bb ob hb=>hb2 bb ob ?_ ((hM.tok t' ht').2.1 bb ob hb)⟩
     rcases hoff t' ht' hne bb with z|z
     .rw[hb]at z;cases z
     .exact z
   .rw[hlk]at hlu
    rw[hlook]
    split at hlu
    .rename_i he
     subst he
     simp at hlu;subst hlu
     rw[if_pos rfl]
     refine⟨hliesF1,fun bb ob hb=>?_,hnew,e3,rfl⟩
     rcases hF1b bb ob hb with⟨q,_⟩|⟨q,q'|q'⟩
     .exact(hM.tok t' htl).2.2 bb ob q
     .cases eg:gf bb with
      |none=>exact(q' eg).elim
      |some x=>exact(hmine bb x eg).1
     .exact .inl (Nat.le_trans hM.moved.size q')
    .rename_i hne
     rw[if_neg hne]
     have hm:=Amo hlu
     obtain⟨vv,q1,q2,q3,q4⟩:=hrd2 _ hm
     simp only at q1 q2 q3 q4
     have ht':=hKl _ hm
     refine⟨fun bb ob hb=>hb2 bb ob ?_ ((hM.tok t' ht').2.1 bb ob hb),(hM.tok t' ht').2.2,by rw[<-q2];exact q1,q3,q4⟩
     rcases hoff t' ht' hne bb with z|z
     .rw[hb]at z;cases z
     .exact z
   .rw[hlook,hlook]
    by_cases a1:t1=t
    .by_cases a2:t2=t
     .exact(hne (a1.trans a2.symm)).elim
     .rw[if_pos a1,if_neg a2];exact Ac.apart_symm (hapF t2 h2 a2)
    .by_cases a2:t2=t
     .rw[if_neg a1,if_pos a2];exact hapF t1 h1 a1
     .rw[if_neg a1,if_neg a2];exact hM.apart t1 t2 h1 h2 hne
   .rw[hlook]
    by_cases a1:t'=t
    .rw[if_pos a1]
     cases eF:F1 (gh.B kk)with
     |none=>rfl
     |some ob=>
      exfalso
      rcases hF1b _ ob eF with⟨q,_⟩|⟨q,q'|q'⟩
      .rw[hM.tokBox t kk htl hkk]at q;cases q
      .cases eg:gf (gh.B kk)with
       |none=>exact q' eg
       |some x=>exact(hmine _ x eg).2 kk hkk rfl
      .exact(Es hM q').2.2 kk hkk rfl
    .rw[if_neg a1];exact hM.tokBox t' kk ht' hkk
   .obtain⟨vs,e,q1,_⟩:=hM.box kk _ (Gd hkk).choose_spec
    rw[q1]
    refine hb2 _ _ ?_ q1
    cases eg:gf (gh.B kk)with
    |none=>rfl
    |some x=>exact((hmine _ x eg).2 kk hkk rfl).elim
  have hst3:st'=J4 st st.live (((t,⟨.sl e cs,l.set i d'⟩):Nat×Sg)::rd):=by rw[hst2];rfl
  subst hst3
  refine hn _ _ _ _ v' w' h hst (Turn.rm hM hdirect) (Turn.env hM hdirect hE) ?_
  show VR cx _ _ (.v false [⟨.int .i64,rr,.nil⟩]) v'
  rw[hv'.1]
  exact(Gu hv'.2).cr
 .cases h
theorem By3 {f:FuncId} {as:Array Operand} {ts:Array TypeId} {ms:List Nat} (ho:o.op= .call {callee:=.value (.func f),args:=as,argTypes:=ts}) (hkd:g.kind f= .lend ms) {ps:List PV} {vs:List RV} {rd:List (Nat×Sg)}
  (hps:N8 g.ty st as.toList ts.toList=some ps) (hvs:D3 st ms ps=some vs) (hrd:Ab6 ms ps=some rd)
  (h:(ob (L4 ms ps) fun gv=>(g.ctr f vs).run fun res=>ob (Pr ms ps res.2) fun us=>chk (T8 gv.2 && (gv.2.all fun t=>gv.1.contains t || (us.map fun u=>u.1).contains t) && rd.all fun u=> !gv.2.contains u.1) (ob o.dst fun n=>let x:=Dg (64*n) res.1
    k (Oe x.1) (.rs gv.1 (List.range' (64*n) (x.2-64*n)) (us++rd))))=some r):o.wp P a w next Q:=by
 obtain⟨gv,hgv,h⟩:=Ah h
 obtain⟨res,hres,h⟩:=Tree.run_some h
 obtain⟨us,hus,h⟩:=Ah h
 obtain⟨hchk,h⟩:=Bb h
 obtain⟨n,hdn,h⟩:=Ah h
 simp only[Bool.and_eq_true]at hchk
 obtain⟨⟨c1,c2⟩,c3⟩:=hchk
 have hnd:=Amq c1
 obtain⟨st',hst⟩:=hk _ _ h
 obtain⟨live',heat,hkeys,hborn,hst2⟩:=Ar6 hst
 obtain⟨m1,m2⟩:=N9 heat hM.nodup
 have hsub: ∀t,t∈live'->t∈st.live:=fun t ht=>((m1 t).1 ht).1
 have hnl:live'.Nodup:=(Vo heat hM.nodup).2
 have hKl: ∀u,u∈rd->u.1∈st.live:=fun u hu=>hsub _ (hkeys u (by simp[hu]))
 have hKm: ∀t',t'∈rd.map (fun u=>u.1)->t'∈st.live:=fun t' ht'=>by obtain⟨u,hu,rfl⟩:=List.mem_map.1 ht';exact hKl u hu
 have hgl: ∀t,t∈gv.2->t∈st.live:=fun t ht=>by
  have:=(List.all_eq_true.1 c2) t ht
  simp only[Bool.or_eq_true]at this
  rcases this with q|q
  .exact m2 t (by simpa using q)
  .have:t∈us.map fun u=>u.1:=by simpa using q
   obtain⟨u,hu,rfl⟩:=List.mem_map.1 this
   exact hsub _ (hkeys u (by simp[hu]))
 have hrg: ∀t,t∈rd.map (fun u=>u.1)->t∉gv.2:=fun t ht=>by
  obtain⟨u,hu,rfl⟩:=List.mem_map.1 ht
  have:=(List.all_eq_true.1 c3) u hu
  simpa using this
 obtain⟨lv2,heat2⟩:=Bqo hM.nodup hnd hgl
 obtain⟨l1,l2⟩:=N9 heat2 hM.nodup
 have hvl:=Ah6 hE hps
 obtain⟨hrp,hrd2⟩:=Axe hM hKm hvl hrd (fun u hu=>List.mem_map.2 ⟨u,hu,rfl⟩)
 obtain⟨fr,hava,_,_,hfru⟩:=Axc hM (fun _ h=>h) hM.nodup hvl hrp hvs hgv heat2
 have hlfr:Bu fr w:=fun b ob hb=>by obtain⟨t,t1,_,t3⟩:=hfru b ob hb;exact(hM.tok t t1).2.1 b ob t3
 have hfrm: ∀b ob,fr b=some ob->Fu cx b/\ ∀kk,st.has kk=true->gh.B kk≠b:=fun b ob hb=>by
  obtain⟨t,t1,_,t3⟩:=hfru b ob hb
  refine⟨(hM.tok t t1).2.2 b ob t3,fun kk hkk he=>?_⟩
  have:=hM.tokBox t kk t1 hkk
  rw[he,t3]at this;cases this
 have hoff: ∀t,t∈st.live->t∉gv.2->(gh.F t).apart fr:=fun t ht hng b=>by
  cases e:fr b with
  |none=>exact .inr rfl
  |some ob=>
   left
   obtain⟨u,u1,u2,u3⟩:=hfru b ob e
   have hug:u∈gv.2:=by
    by_cases q:u∈gv.2
    .exact q
    .exact(u2 ((l1 u).2 ⟨u1,q⟩)).elim
   have hne:t≠u:=fun e=>hng (e▸hug)
   rcases hM.apart t u ht u1 hne b with q|q
   .exact q
   .rw[q]at u3;cases u3
 have hdo:=hC.ctr f
 rw[hkd]at hdo
 have hcall:=hdo vs res (as.toList.map a.eval) w (Et cx (rd.map fun u=>u.1) gh.F gh.V gh.S) fr hres (Bhk hM hKm) (hM.tok0 fun b ob hb=>(hfrm b ob hb).1) hlfr (fun bb hbb oo=>by
   obtain⟨ob,hob⟩:=Option.isSome_iff_exists.1 hbb
   refine Bhl hM (hfrm bb ob hob).1 (fun t' ht'=>?_) oo
   rcases hoff t' (hKm t' ht') (hrg t' ht') bb with q|q
   .exact q
   .rw[hob]at q;cases q) hava
 unfold Oper.wp
 rw[Uc ho (hC.fn f vs _ hres)]
 refine hcall.mono ?_
 rintro ee w' ⟨v',ff,gm,rfl,hmv,hlf,hlg,hap,hnf,hng,hO,hm⟩
 show next (a.put o.dst v') w'
 obtain⟨fs,f1,f2,f3⟩:=Ber hvl hm hus (fun u hu=>hsub _ (hkeys u (by simp[hu])))
 have husk:(us.map fun u=>u.1).Nodup/\ ∀u,u∈us->u.1∈gv.2:=Bwr hnd hgv hus
 have hT:=Bwq hM (f:=ff) hsub hnl hmv hlg hng hfrm f1 f2 f3 hkeys (fun t ht hlu=>hoff t (hsub t ht) (fun hg=>by
   have:=(List.all_eq_true.1 c2) t hg
   simp only[Bool.or_eq_true]at this
   rcases this with q|q
   .exact((m1 t).1 ht).2 (by simpa using q)
   .have:t∈us.map fun u=>u.1:=by simpa using q
    obtain⟨u,hu,rfl⟩:=List.mem_map.1 this
    exact Aw9 hlu u hu rfl)) hrd2 husk.1
 have M1:=Turn.rm hM hT
 have E1:=Turn.env hM hT hE
 have hfresh:Gn cx (Turn.gh gh cx live' (fun t=>match Sv t fs with|some f=>f|none=>gh.F t)) (J4 st live' (us++rd)) ff:=fun b ob hb=>by
  have hmine:Fu cx b:=by
   rcases hnf b ob hb with q|q
   .cases e:fr b with
    |none=>exact(q e).elim
    |some x=>exact(hfrm b x e).1
   .exact .inl (Nat.le_trans hM.moved.size q)
  have htok: ∀t,t∈live'->(match Sv t fs with|some f=>f|none=>gh.F t) b=none:=fun t ht=>by
   cases hq:E6 t us with
   |some s=>
    obtain⟨f',k1,k2,_⟩:=(f1.look (t:=t)).1 _ hq
    simp only[k1]
    rcases hap b with q|q
    .rw[hb]at q;cases q
    .cases e:f' b with
     |none=>rfl
     |some x=>rw[f3 _ k2 b x e]at q;cases q
   |none=>
    simp only[(f1.look (t:=t)).2 hq]
    rcases hnf b ob hb with q|q
    .have hng2:t∉gv.2:=fun hg=>by
      have:=(List.all_eq_true.1 c2) t hg
      simp only[Bool.or_eq_true]at this
      rcases this with q|q
      .exact((m1 t).1 ht).2 (by simpa using q)
      .have:t∈us.map fun u=>u.1:=by simpa using q
       obtain⟨u,hu,rfl⟩:=List.mem_map.1 this
       exact Aw9 hq u hu rfl
     rcases hoff t (hsub t ht) hng2 b with z|z
     .exact z
     .exact(q z).elim
    .exact(Es hM q).2.1 t (hsub t ht)
  refine⟨hmine,htok,fun kk hkk he=>?_,fun o'=>?_⟩
  .rw[Qe]at hkk
   have he':gh.B kk=b:=he
   rcases hnf b ob hb with q|q
   .cases e:fr b with
    |none=>exact q e
    |some x=>exact(hfrm b x e).2 kk hkk he'
   .exact(Es hM q).2.2 kk hkk he'
  .show Et cx live' _ gh.V gh.S b o'=none
   cases hg:Et cx live' (fun t=>match Sv t fs with|some f=>f|none=>gh.F t) gh.V gh.S b o' with
   |none=>rfl
   |some x=>
    exfalso
    rcases Jb hg with h|⟨t,ht,h,_⟩
    .obtain⟨h1,h2⟩:=hM.old b o' x h
     rcases hmine with q|q
     .omega
     .rw[h2]at q;cases q
    .have h':B9 (match Sv t fs with|some f=>f|none=>gh.F t) b o'=some x:=h
     unfold B9 Ac.cell at h';rw[htok t ht]at h';cases h'
 have hge:=Wp (64*n) res.1
 obtain⟨g2,M2,X2,C2⟩:=Bcd (n:=64*n) M1 hO hlf hfresh (fun t t1 t2=>hborn t (List.mem_range'_1.2 ⟨t1,by omega⟩))
 have hst3:st'=more (J4 st live' (us++rd)) (64*n) ((Dg (64*n) res.1).2-64*n):=hst2
 subst hst3
 exact hn g2 _ _ _ v' w' h hst M2 (E1.ext' X2 rfl) C2
theorem By4 {f:FuncId} {as:Array Operand} {ts:Array TypeId} {ms:List Nat} (ho:o.op= .call {callee:=.value (.func f),args:=as,argTypes:=ts}) (hkd:g.kind f= .vgive ms) {ps:List PV} {vs:List RV}
  (hps:N8 g.ty st as.toList ts.toList=some ps) (hvs:D3 st ms ps=some vs)
  (h:(ob (L4 ms ps) fun gv=>chk (Bb7 ms vs && T8 gv.2) ((g.ctr f vs).run fun res=>ob o.dst fun n=>k (Oe (Bje (64*n) res.1)) (.toks gv.2 (List.range' (64*n) 1))))=some r):o.wp P a w next Q:=by
 obtain⟨gv,hgv,h⟩:=Ah h
 obtain⟨hchk,h⟩:=Bb h
 obtain⟨res,hres,h⟩:=Tree.run_some h
 obtain⟨n,hdn,h⟩:=Ah h
 simp only[Bool.and_eq_true]at hchk
 obtain⟨c1,c2⟩:=hchk
 obtain⟨st',hst⟩:=hk _ _ h
 have hst0:=hst
 obtain⟨live',heat2,hst0⟩:=Ah hst0
 obtain⟨us,hu1,hst0⟩:=Ah hst0
 obtain⟨b1,b2⟩:=I2 hu1
 subst b1
 simp only[Option.some.injEq]at hst0
 obtain⟨l1,l2⟩:=N9 heat2 hM.nodup
 have hnl:live'.Nodup:=(Vo heat2 hM.nodup).2
 have hsub: ∀t,t∈live'->t∈st.live:=fun t ht=>((l1 t).1 ht).1
 have hvl:=Ah6 hE hps
 obtain⟨fr,hava,_,_,hfru⟩:=Axc hM (fun _ h=>h) hM.nodup hvl (Bws hvl) hvs hgv heat2
 have hlfr:Bu fr w:=fun b ob hb=>by obtain⟨t,t1,_,t3⟩:=hfru b ob hb;exact(hM.tok t t1).2.1 b ob t3
 have hdo:=hC.ctr f
 rw[hkd]at hdo
 have hcall:=hdo vs res (as.toList.map a.eval) w (B9 fr) hres (fun b o x hx=>Bu.cell hlfr hx) (hM.tok0 fun _ _ h=>by cases h) (Bqq c1 hava)
 unfold Oper.wp
 rw[Uc ho (hC.fn f vs _ hres)]
 refine hcall.mono ?_
 rintro e w' ⟨v',G',rfl,hG,hl,hsubG,hnew,hR⟩
 show next (a.put o.dst v') w'
 obtain⟨M1,X1⟩:=(hM.world hG).drop hsub hnl
 let ff:Ac:=fun b=>if w.heap.size<=b\/(fr b).isSome=true then w'.heap[b]? else none
 have hfp: ∀b,(w.heap.size<=b\/(fr b).isSome=true)->ff b=w'.heap[b]? :=fun b hb=>if_pos hb
 have hfn: ∀b o,ff b=some o->(w.heap.size<=b\/(fr b).isSome=true):=fun b o hb=>by
  by_cases q:w.heap.size<=b\/(fr b).isSome=true
  .exact q
  .have e:ff b=none:=if_neg q
   rw[e]at hb;cases hb
 have hfl:Bu ff w':=fun b o hb=>by rw[<-hfp b (hfn b o hb)];exact hb
 have hmine: ∀b o,ff b=some o->Fu cx b:=fun b o hb=>by
  rcases hfn b o hb with q|q
  .exact .inl (Nat.le_trans hM.moved.size q)
  .obtain⟨ob,hob⟩:=Option.isSome_iff_exists.1 q
   obtain⟨t,t1,_,t3⟩:=hfru b ob hob
   exact(hM.tok t t1).2.2 b ob t3
 have htok: ∀t,t∈live'-> ∀b o,ff b=some o->gh.F t b=none:=fun t ht b o hb=>by
  rcases hfn b o hb with q|q
  .exact(Es hM q).2.1 t (hsub t ht)
  .obtain⟨ob,hob⟩:=Option.isSome_iff_exists.1 q
   obtain⟨u,u1,u2,u3⟩:=hfru b ob hob
   have hne:t≠u:=fun e=>u2 (e▸ht)
   rcases hM.apart t u (hsub t ht) u1 hne b with z|z
   .exact z
   .rw[u3]at z;cases z
 obtain⟨M2,X2⟩:=M1.addTok (n:=64*n) (f:=ff) (U:=B9 ff) (b2 (64*n) (by simp)) undef 0 hfl hmine (fun t ht b=>by
   cases e:ff b with
   |none=>exact .inr rfl
   |some ob=>exact .inl (htok t ht b ob e)) (fun kk hkk=>by
   have hkk:st.has kk=true:=hkk
   cases e:ff (gh.B kk)with
   |none=>rfl
   |some ob=>
    exfalso
    rcases hfn _ ob e with q|q
    .exact(Es hM q).2.2 kk hkk rfl
    .obtain⟨ob',hob⟩:=Option.isSome_iff_exists.1 q
     obtain⟨t,t1,_,t3⟩:=hfru _ ob' hob
     have z:=hM.tokBox t kk t1 hkk
     rw[t3]at z;cases z) (fun _ _ _ h=>h)
 have hst3:st'={st with live:=64*n::live',used:=64*n::st.used}:=by
  rw[<-hst0];rfl
 subst hst3
 have hRf:Of (B9 ff) res.1 v':=Of.sub (fun b o x hx=>by
  refine Bmu (hfp b ?_) (hl b o x hx)
  rcases hnew b o x hx with q|q
  .right
   unfold B9 Ac.cell at q
   cases e:fr b with
   |none=>rw[e]at q;cases q
   |some _=>rfl
  .exact .inl q) hR
 refine hn _ _ _ _ v' w' h hst M2 (hE.ext' (X1.trans X2) rfl) (By1 (n:=64*n) ?_ (List.mem_cons_self ..) (by simp[Gh.tk]) (by simpa [Gh.tk] using hRf))
 intro b o x hx
 simp only[Gh.tk,if_true]at hx
 simp only[Gh.tk,Ij]
 cases hg:gh.G b o with
 |none=>simpa using hx
 |some y=>
  have h1:=M1.lies b o y hg
  have h2:=Bu.cell hfl hx
  rw[h1]at h2
  simpa using h2
end
end
section

mutual
theorem RdD.uniq {G:A9}: ∀(s:Sh) (d d':s.den) (v:Value),RdD G s d v->RdD G s d' v->d=d'
 | .int _,_,_,_,h,h'=>by simp only[RdD]at h h';have:=h.1.symm.trans h'.1;injection this
 | .bool,_,_,_,h,h'=>by simp only[RdD]at h h';have:=h.symm.trans h';injection this
 | .str,_,_,_,h,h'=>by simp only[RdD]at h h';have:=h.symm.trans h';injection this
 | .junk,_,_,_,_,_=>rfl
 | .sl _ cs,l,l',v,h,h'=>by
  simp only[RdD]at h h'
  obtain⟨a,cap,h1,_,_,_,h4⟩:=h
  obtain⟨a',cap',h1',_,_,_,h4'⟩:=h'
  have he:=h1.symm.trans h1'
  injection he with e1 e2 e3
  subst e1
  apply List.ext_getElem?
  intro i
  cases hd:l[i]? with
  |none=>
   have:=List.getElem?_eq_none_iff.1 hd
   exact(List.getElem?_eq_none (by omega)).symm
  |some d=>
   have hi:=(List.getElem?_eq_some_iff.1 hd).1
   have hd':=List.getElem?_eq_getElem (l:=l') (i:=i) (by omega)
   rw[hd']
   obtain⟨b,o,k1,k2⟩:=h4 i d hd
   obtain⟨b',o',k1',k2'⟩:=h4' i _ hd'
   rw[k1]at k1'
   cases k1'
   rw[Eo.uniq cs d _ b _ k2 k2']
theorem Eo.uniq {G:A9}: ∀(cs:List Sh) (d d':dens cs) (b o:Nat),Eo G cs d b o->Eo G cs d' b o->d=d'
 |[],_,_,_,_,_,_=>rfl
 |s::r,d,d',b,o,h,h'=>by
  simp only[Eo]at h h'
  obtain⟨⟨v,h1,h2⟩,h3⟩:=h
  obtain⟨⟨v',h1',h2'⟩,h3'⟩:=h'
  rw[h1]at h1'
  cases h1'
  exact Prod.ext (RdD.uniq s d.1 d'.1 v h2 h2') (Eo.uniq r d.2 d'.2 b _ h3 h3')
end
theorem Bf.uniq {f:Ac} {e e':Nat} {cs:List Sh} {l l':List (dens cs)} {v:Value} (h:Bf f (.sl e cs) l v) (h':Bf f (.sl e' cs) l' v):l=l':=by
 have k:=Bf.rdIn _ f _ v (B9 f) h (fun _ _ _ hx _=>hx)
 have k':=Bf.rdIn _ f _ v (B9 f) h' (fun _ _ _ hx _=>hx)
 refine RdD.uniq (G:=B9 f) (.sl e cs) l l' v k ?_
 simpa only[RdD] using k'
theorem A25 {sz:Nat}: ∀ {css:List (List Value)} {H:Nat},(∀c∈css,c.length=sz)->(css.drop H).flatten=css.flatten.drop (H*sz)
 |[],H,_=>by simp
 |c::r,0,_=>by simp
 |c::r,H+1,h=>by
  have hc:=h c (by simp)
  have ih:=A25 (css:=r) (H:=H) (fun d hd=>h d (by simp[hd]))
  simp only[List.drop_succ_cons,List.flatten_cons,ih]
  rw[List.drop_append,hc,Nat.succ_mul,Nat.add_sub_cancel]
  rw[List.drop_eq_nil_of_le (show c.length<=H*sz+sz by omega),List.nil_append]
section
variable {P:Program} {g:Cfg} (hC:CfgOk P g) {cx:Cx} {gh:Gh} {st:St} {a:Act} {w:World} {nt:Nat} (hM:RM cx gh st w) (hE:Env nt cx gh st a)
 {o:Oper} {ρ:Type} {k:PV->Ef->Option ρ} {r:ρ} {next:Act->World->Prop} {Q:Exit->Act->World->Prop}
 (hk: ∀pv ef,k pv ef=some r-> ∃st',ef.app o.dst st=some st')
 (hn: ∀gh' pv ef st' v w',k pv ef=some r->ef.app o.dst st=some st'->RM cx gh' st' w'->Env nt cx gh' st' a->VR cx gh' st' pv v->next (a.put o.dst v) w')
include hC hM hE hk hn
theorem Bcf {x y:Operand} {t:Nat} (ho:o.op= .call {callee:=.builtin .append,args:= #[x,y],argTypes:= #[t,t]}) {T:Ty} {e0 dn:Nat} {c0:List Sh} {l m:List (dens c0)} {ate:List Nat}
  (hag:T.agg=false) (hsh:T.shs=[.sl e0 c0]) (hT:g.ty t=some T) (hdn:o.dst=some dn)
  (hbd:List.length (α:=dens c0) l+List.length (α:=dens c0) m<=4294967296)
  {css css2:List (List Value)} {rw_:Ac} {hs hs2:List Ac} {ad:Option Addr} {cap2:Nat}
  (r1:Dw e0 c0.length rw_ (a.eval x) l.length css.flatten) (r3:Cd c0.length (fun h c d=>By h c0 d c) hs css l)
  (hv2:a.eval y= .slice ad m.length cap2) (e2:Cd c0.length (fun h c d=>By h c0 d c) hs2 css2 m)
  (hpw:(rw_::(hs++hs2)).Pairwise Ac.apart)
  (news: ∀j u,css2.flatten[j]? =some u-> ∃b o,ad=some ⟨b,o,none⟩/\w.cell? ⟨b,o+j,none⟩=some u)
  {st':St} (hst:(Ef.rs ate [64*dn] []).app o.dst st=some st')
  (hown: ∀h,h∈rw_::(hs++hs2)-> ∀b ob,h b=some ob-> ∃t,t∈st.live/\t∈ate/\gh.F t b=some ob)
  (h:k (.v false [⟨.sl e0 c0,(l++m:List (dens c0)),.own (64*dn)⟩]) (.rs ate [64*dn] [])=some r):o.wp P a w next Q:=by
 obtain⟨live',heat,_,hborn,hst2⟩:=Ar6 hst
 obtain⟨m1,m2⟩:=N9 heat hM.nodup
 have hsub: ∀t,t∈live'->t∈st.live:=fun t ht=>((m1 t).1 ht).1
 have hnl:live'.Nodup:=(Vo heat hM.nodup).2
 obtain⟨hu,z,by_,hR,hb2,hz⟩:=(hC.ty t T hT).sl e0 c0 hag hsh
 obtain⟨ie,hi1,hi2,hi3,hi4⟩:=hR.info
 have hlies: ∀h,h∈rw_::(hs++hs2)->Bu h w:=fun h hh b ob hb=>by
  obtain⟨t,t1,_,t3⟩:=hown h hh b ob hb
  exact(hM.tok t t1).2.1 b ob t3
 have hrwm:rw_∈rw_::(hs++hs2):=by simp
 obtain⟨v',w',f',hrun,hrow,hlf',hcases⟩:=Apv (P:=P) w t o.type e0 ie z c0.length hu hi1 hi2 hi3 hR.hz hR.h0 (c:=cap2) r1 (hlies rw_ hrwm) news
  (by rw[Fg e2.len,e2.1]) (Bhg e2) (by unfold maxLen;omega) (by
   rw[hi4]
   have:(List.length (α:=dens c0) l+List.length (α:=dens c0) m)*by_<=4294967296*4096:=Nat.mul_le_mul hbd hb2
   omega)
 have hf': ∀b ob,f' b=some ob->(∃ob',rw_ b=some ob')\/b=w.heap.size:=by
  intro b ob hb
  rcases hcases with⟨_,rfl,_,_⟩|⟨b',C,D,cap,_,_,_,hC',_,_,rfl⟩|⟨b',D,cap,_,hbw,_,rfl⟩
  .exact .inl ⟨ob,hb⟩
  .simp only[Ac.one]at hb
   split at hb
   .rename_i e;subst e;exact .inl ⟨_,hC'⟩
   .cases hb
  .simp only[Ac.one]at hb
   split at hb
   .rename_i e;subst e;exact .inr hbw
   .cases hb
 have hold: ∀b ob,(∃h,h∈rw_::(hs++hs2)/\h b=some ob)->Fu cx b/\(∀t,t∈live'->gh.F t b=none)/\(∀k,st.has k=true->gh.B k≠b)/\b<w.heap.size:=fun b ob ⟨h,hh,hb⟩=>by
  obtain⟨t,t1,t2,t3⟩:=hown h hh b ob hb
  refine⟨(hM.tok t t1).2.2 b ob t3,fun q hq=>?_,fun k hk he=>?_,(hM.tok t t1).2.1.lt _ _ t3⟩
  .have hne:q≠t:=fun e=>((m1 q).1 hq).2 (e▸t2)
   rcases hM.apart q t (hsub q hq) t1 hne b with k1|k1
   .exact k1
   .rw[k1]at t3;cases t3
  .rw[<-he,hM.tokBox t k t1 hk]at t3;cases t3
 have hpl:=List.pairwise_cons.1 hpw
 have hapf: ∀h,h∈hs++hs2->f'.apart h:=fun h hh b=>by
  cases e1:f' b with
  |none=>exact .inl rfl
  |some o1=>
   right
   cases e2:h b with
   |none=>rfl
   |some o2=>
    exfalso
    rcases hf' b o1 e1 with⟨ob',hb'⟩|rfl
    .rcases hpl.1 h hh b with k1|k1
     .rw[k1]at hb';cases hb'
     .rw[k1]at e2;cases e2
    .have:=(hold w.heap.size o2 ⟨h,by simp only[List.mem_cons];exact .inr hh,e2⟩).2.2.2
     omega
 obtain⟨f,hf1,hf2⟩:=Ak3 (f'::(hs++hs2)) (List.pairwise_cons.2 ⟨hapf,hpl.2⟩)
 have hO':Bf f (.sl e0 c0) (l++m:List (dens c0)) v':=by
  simp only[Bf]
  refine⟨css++css2,f',hs++hs2,?_,hf1,r3.app e2⟩
  rw[List.length_append,List.flatten_append]
  exact hrow
 have hstay: ∀b ob,rw_ b=none->w.heap[b]? =some ob->w'.heap[b]? =some ob:=fun b ob hr hb=>by
  rcases hcases with⟨rfl,_⟩|⟨b',C,D,cap,_,_,_,hC',rfl,_,_⟩|⟨b',D,cap,hG,_⟩
  .exact hb
  .rw[setRow_other w b' b D (fun e=>by subst e;rw[hr]at hC';cases hC')];exact hb
  .rw[hG.block b (Array.getElem?_eq_some_iff.1 hb).1];exact hb
 have hlf:Bu f w':=fun b ob hb=>by
  obtain⟨h,hh,hb⟩:=hf2 b ob hb
  rcases List.mem_cons.1 hh with rfl|hh'
  .exact hlf' b ob hb
  .have hm:h∈rw_::(hs++hs2):=by simp only[List.mem_cons];exact .inr hh'
   refine hstay b ob ?_ (hlies h hm b ob hb)
   rcases hpl.1 h hh' b with q|q
   .exact q
   .rw[q]at hb;cases hb
 have hmoved:Moved cx.f0 cx.w0 w':=by
  rcases hcases with⟨rfl,_⟩|⟨b',C,D,cap,_,_,_,hC',rfl,_,_⟩|⟨b',D,cap,hG,_⟩
  .exact hM.moved
  .exact hM.moved.row (hold b' _ ⟨rw_,hrwm,hC'⟩).1 D
  .exact(hM.world hG).moved
 have hTn:Turn cx gh st w w' live' [] gh.F:=by
  refine⟨hmoved,hsub,hnl,fun u hu=>(by cases hu),fun u hu _=>⟨rfl,fun bb ob hb=>hstay bb ob ?_ ((hM.tok u (hsub u hu)).2.1 bb ob hb)⟩,fun u s hlu=>(by cases hlu),fun u u' hu hu' hne=>hM.apart u u' (hsub u hu) (hsub u' hu') hne,
   fun u kk hu hkk=>hM.tokBox u kk (hsub u hu) hkk,fun kk hkk=>?_⟩
  .cases e:rw_ bb with
   |none=>rfl
   |some ob'=>rw[(hold bb ob' ⟨rw_,hrwm,e⟩).2.1 u hu]at hb;cases hb
  .obtain⟨vs,e,q1,_⟩:=hM.box kk _ (Gd hkk).choose_spec
   rw[q1]
   refine hstay _ _ ?_ q1
   cases e:rw_ (gh.B kk)with
   |none=>rfl
   |some ob'=>exact((hold _ ob' ⟨rw_,hrwm,e⟩).2.2.1 kk hkk rfl).elim
 have M1:=Turn.rm hM hTn
 have E1:=Turn.env hM hTn hE
 have hfresh:Gn cx (Turn.gh gh cx live' gh.F) (J4 st live' []) f:=fun b ob hb=>by
  obtain⟨h,hh,hb⟩:=hf2 b ob hb
  have key:Fu cx b/\(∀t,t∈live'->gh.F t b=none)/\(∀k,st.has k=true->gh.B k≠b):=by
   rcases List.mem_cons.1 hh with rfl|hh'
   .rcases hf' b ob hb with⟨ob',hb'⟩|rfl
    .obtain⟨k1,k2,k3,_⟩:=hold b ob' ⟨rw_,hrwm,hb'⟩
     exact⟨k1,k2,k3⟩
    .have:=Es hM (Nat.le_refl w.heap.size)
     exact⟨this.1,fun t ht=>this.2.1 t (hsub t ht),this.2.2⟩
   .obtain⟨k1,k2,k3,_⟩:=hold b ob ⟨h,by simp only[List.mem_cons];exact .inr hh',hb⟩
    exact⟨k1,k2,k3⟩
  obtain⟨k1,k2,k3⟩:=key
  refine⟨k1,k2,fun kk hkk=>by rw[Qe]at hkk;exact k3 kk hkk,fun o'=>?_⟩
  show Et cx live' gh.F gh.V gh.S b o'=none
  cases hg:Et cx live' gh.F gh.V gh.S b o' with
  |none=>rfl
  |some x=>
   exfalso
   rcases Jb hg with h|⟨t,ht,h,_⟩
   .obtain⟨h1,h2⟩:=hM.old b o' x h
    rcases k1 with q|q
    .omega
    .rw[h2]at q;cases q
   .unfold B9 Ac.cell at h;rw[k2 t ht]at h;cases h
 obtain⟨g2,M2,X2,C2⟩:=Bcd (res:=[(false,[⟨.sl e0 c0,(l++m:List (dens c0))⟩])]) (v:=v') (n:=64*dn) M1 (show Su _ v' f from⟨f,Ac.emp,⟨List.pairwise_cons.2 ⟨fun x hx=>by simp at hx;subst hx;exact Ac.apart_emp _,List.pairwise_singleton _ _⟩,fun x hx=>by
   simp at hx
   rcases hx with rfl|rfl
   .exact Ac.sub_refl _
   .exact Ac.emp_sub _⟩,hO',trivial⟩) hlf hfresh (fun t t1 t2=>hborn t (by
   have:t<64*dn+1:=t2
   simp;omega))
 have hst3:st'=more (J4 st live' []) (64*dn) 1:=hst2
 have hsz:(Dg (64*dn) [(false,[(⟨.sl e0 c0,(l++m:List (dens c0))⟩:Sg)])]).2-64*dn=1:=by
  show 64*dn+1-64*dn=1
  omega
 rw[hsz]at M2 X2 C2
 subst hst3
 refine C9 (v:=v') (w':=w') ?_ (hn g2 _ _ _ v' w' h hst M2 (E1.ext' X2 rfl) C2)
 unfold execOp;rw[ho]
 simp only[resolve,invoke,builtin,Sem.run_bind,Sem.run_pure,Result.andThen_ok,List.map_toArray,List.map_cons,List.map_nil,hv2,hrun]
theorem Btu {x y:Operand} {t:Nat} (ho:o.op= .call {callee:=.builtin .append,args:= #[x,y],argTypes:= #[t,t]}) {T:Ty} {c d:Cl} {dn:Nat} (hT:g.ty t=some T) (hc:ev1 g.ty st t x=some c) (hd:ev1 g.ty st t y=some d) (hdn:o.dst=some dn)
  (h:Zt T (64*dn) c d (fun r ef=>k (.v false [r]) ef)=some r):o.wp P a w next Q:=by
 have hcc:=Kh hE hc
 have hcd:=Kh hE hd
 obtain⟨csh,cval,ctok⟩:=c
 obtain⟨dsh,dval,dtok⟩:=d
 unfold Zt at h
 split at h
 case h_2=>cases h
 case h_1 x1 y1 e cs l t1 e1 cs1 l0 e' cs' m ty' he1 he2=>
 cases he1
 cases he2
 split at h
 case h_2=>cases h
 case h_1 ag shs e0 c0 hag hsh=>
 split at h
 case isFalse=>cases h
 case isTrue hcs=>
 subst hcs
 split at h
 case isFalse=>cases h
 case isTrue hc0=>
 subst hc0
 split at h
 case isFalse=>cases h
 case isTrue he0=>
 subst he0
 obtain⟨hbd,h⟩:=Bb h
 simp only[decide_eq_true_eq]at hbd
 obtain⟨_,hu1,hcp⟩:=hcc
 split at h
 .
  rename_i t' e2 cs2 l2 lo _
  obtain⟨p1,h⟩:=Bb h
  obtain⟨p2,h⟩:=Bb h
  obtain⟨p3,hfin⟩:=Bb h
  have p1:=Nat.eq_of_beq_eq_true p1
  have p2:=Nat.le_of_ble_eq_true p2
  subst p1
  obtain⟨_,hu2,hdp⟩:=hcd
  obtain⟨st',hst⟩:=hk _ _ hfin
  obtain⟨live',heat,_,_,_⟩:=Ar6 hst
  have htl:t'∈st.live:=(N9 heat hM.nodup).2 t' (by simp)
  obtain⟨q1,q2,q3,H,ad,n,cap,r1,r2,r3,r4,r5⟩:=hcp htl
  obtain⟨q1',q2',q3',H',ad',n',cap',r1',r2',r3',r4',r5'⟩:=hdp htl
  simp only[Option.getD_none,Option.getD_some,List.drop_zero]at r1' r3 r5 r3' r5'
  cases r3
  cases r3'
  rw[r4]at r4'
  cases r4'
  have hll:l2=l0:=Bf.uniq q1' q1
  subst hll
  have k0:=q1
  rw[r4]at k0
  simp only[Bf]at k0
  obtain⟨css,rw_,hs,k1,k2,k3⟩:=k0
  have hlH:(l2.take H).length=H:=by simp;omega
  have hmH:((l2.take H').drop lo).length=H'-lo:=by simp;omega
  rw[hlH]at p2
  have hpl:=List.pairwise_cons.1 k2.1
  have hX:((hs.take H').drop lo).Sublist (hs.drop H):=
   ((List.take_sublist H' hs).drop lo).trans (List.drop_sublist_drop_left hs p2)
  have hXX:(hs.take H++(hs.take H').drop lo).Sublist hs:=by
   have:=List.Sublist.append (List.Sublist.refl (hs.take H)) hX
   rwa [List.take_append_drop]at this
  refine Bcf (st':=st') hC hM hE hk hn ho hag hsh hT hdn hbd (css:=css.take H) (css2:=(css.take H').drop lo) (rw_:=rw_) (hs:=hs.take H) (hs2:=(hs.take H').drop lo) (cap2:=cap-lo)
   ?_ (k3.take H) (by rw[hmH];exact r5') ((k3.take H').drop lo) ?_ ?_ hst ?_ hfin
  .rw[r5,Ub k3.len,hlH]
   exact k1.take r2
  .exact List.pairwise_cons.2 ⟨fun q hq=>hpl.1 q (hXX.subset hq),hpl.2.sublist hXX⟩
  .intro j u hj
   rw[A25 (fun c hc=>k3.len c (List.mem_of_mem_take hc)),Ub k3.len,List.getElem?_drop,List.getElem?_take]at hj
   split at hj
   case isFalse=>cases hj
   case isTrue hlt=>
   have hlo:lo<H':=by
    rcases Nat.lt_or_ge lo H' with hh|hh
    .exact hh
    .have:=Nat.mul_le_mul_right cs1.length hh
     omega
   obtain⟨hz,⟨⟨a',hE'⟩,hz'⟩|⟨b,cap',cur,hE',hg,hnc,hcm,hsz,htk⟩⟩:=k1
   .omega
   .cases hE'
    have hcl: ¬cap=lo:=by omega
    refine⟨b,lo*cs1.length,by rw[if_neg hcl];simp[Addr.add_mid],?_⟩
    have hblk:=(hM.tok t' htl).2.1 b _ (k2.2 rw_ (by simp) b _ hg)
    rw[cell_of_row w b _ cur e1 (0,0) hblk]
    rw[<-htk,List.getElem?_take]at hj
    split at hj
    .simpa using hj
    .cases hj
  .intro q hq b ob hb
   refine⟨t',htl,by simp,k2.2 q ?_ b ob hb⟩
   rcases List.mem_cons.1 hq with e|hq
   .simp[e]
   .exact List.mem_cons_of_mem _ (hXX.subset hq)
 .
  obtain⟨a2,ha2,hfin⟩:=Ah h
  obtain⟨st',hst⟩:=hk _ _ hfin
  obtain⟨live',heat,_,_,_⟩:=Ar6 hst
  have htl:t1∈st.live:=(N9 heat hM.nodup).2 t1 (by simp)
  obtain⟨l1,heat1,heat2⟩:=Adf (l:=[t1]) (m:=a2) heat
  obtain⟨m1,m2⟩:=N9 heat1 hM.nodup
  obtain⟨s1,n1⟩:=Vo heat1 hM.nodup
  have ht1:t1∉l1:=fun hm=>((m1 t1).1 hm).2 (by simp)
  obtain⟨m3,m4⟩:=N9 heat2 n1
  obtain⟨q1,q2,q3,H,ad,n,cap,r1,r2,r3,r4,r5⟩:=hcp htl
  simp only[Option.getD_none,List.drop_zero]at r3 r5
  cases r3
  have hlH:(l0.take H).length=H:=by simp;omega
  rw[r4]at q1
  simp only[Bf]at q1
  obtain⟨css,rw_,hs,k1,k2,k3⟩:=q1
  have hsrc: ∃(css:List (List Value)) (hs:List Ac) (ad:Option Addr) (cap:Nat),a.eval y= .slice ad (List.length (α:=dens cs1) m) cap/\Cd cs1.length (fun h c d=>By h cs1 d c) hs css m/\hs.Pairwise Ac.apart/\
    (∀h,h∈hs-> ∀b o,h b=some o-> ∃t,t∈l1/\t∈a2/\gh.F t b=some o)/\
    ∀j u,css.flatten[j]? =some u-> ∃b o,ad=some ⟨b,o,none⟩/\w.cell? ⟨b,o+j,none⟩=some u:=by
   cases hfl:Ab5 cs1 with
   |true=>
    have hrd:=hcd.1
    simp only[RdD]at hrd
    obtain⟨ad,cap,hv,_,_,_,hel⟩:=hrd
    by_cases hm0:List.length (α:=dens cs1) m=0
    .have:m=[]:=List.eq_nil_of_length_eq_zero hm0
     subst this
     exact⟨[],[],ad,cap,hv,Cd.nil _ _,.nil,fun h hh=>(by cases hh),fun j u hu=>by simp at hu⟩
    .obtain⟨b,o,had,_⟩:=hel 0 _ (List.getElem?_eq_getElem (by omega))
     subst had
     obtain⟨css,e1,e2⟩:=Aw7 (G:=gh.G) hfl (l:=m) (b:=b) (o:=o) (fun i d hd=>by
      obtain⟨b',o',e,h⟩:=hel i d hd
      cases e;exact h)
     refine⟨css,List.replicate (List.length (α:=dens cs1) m) Ac.emp,some ⟨b,o,none⟩,cap,hv,e1,List.pairwise_replicate.2 (.inr (Ac.apart_emp _)),fun h hh b o hb=>?_,fun j u hu=>⟨b,o,rfl,hM.lies _ _ _ (e2 j u hu)⟩⟩
     rw[(List.mem_replicate.1 hh).2]at hb;cases hb
   |false=>
    rw[hfl]at ha2
    simp only[cond_false]at ha2
    obtain⟨f,o1,o2,o3,o4⟩:=Aw6 hM s1 n1 hcd ha2 heat2
    simp only[Bf]at o1
    obtain⟨css,rw2,hs,r1,r2,r3⟩:=o1
    obtain⟨ad,cap,hv,_,_,hcell⟩:=r1.rd
    have hin: ∀b o,f b=some o-> ∃t,t∈l1/\t∈a2/\gh.F t b=some o:=fun b o hb=>by
     obtain⟨t,t1,t2,t3⟩:=o4 b o hb
     refine⟨t,t1,?_,t3⟩
     by_cases hq:t∈a2
     .exact hq
     .exact(t2 ((m3 t).2 ⟨t1,hq⟩)).elim
    refine⟨css,hs,ad,cap,hv,r3,(List.pairwise_cons.1 r2.1).2,fun h hh b o hb=>hin b o (r2.2 h (by simp[hh]) b o hb),fun j u hu=>?_⟩
    cases ad with
    |none=>rw[hcell.2]at hu;simp at hu
    |some ad=>
     obtain⟨b,o,sp⟩:=ad
     obtain⟨k1,k2⟩:=hcell j u hu
     simp only at k1;subst k1
     have hlf:Bu rw2 w:=fun b o hb=>by
      obtain⟨t,t1,_,t3⟩:=o4 b o (r2.2 rw2 (by simp) b o hb)
      exact(hM.tok t (s1 t t1)).2.1 b o t3
     exact⟨b,o,rfl,hlf.cell k2⟩
  obtain⟨css2,hs2,ad2,cap2,hv2,e2,p2,u2,news⟩:=hsrc
  have hpl:=List.pairwise_cons.1 k2.1
  have hcross: ∀q,q∈rw_::hs-> ∀q2,q2∈hs2->q.apart q2:=fun q hq q2 hq2 b=>by
   cases e1:q b with
   |none=>exact .inl rfl
   |some o1=>
    right
    cases e2:q2 b with
    |none=>rfl
    |some o2=>
     obtain⟨t,t1',_,t3⟩:=u2 q2 hq2 b o2 e2
     have hne:t1≠t:=fun e=>ht1 (e▸t1')
     have hF:=k2.2 q hq b o1 e1
     rcases hM.apart t1 t htl (s1 t t1') hne b with z|z
     .rw[z]at hF;cases hF
     .rw[z]at t3;cases t3
  refine Bcf (st':=st') hC hM hE hk hn ho hag hsh hT hdn hbd (css:=css.take H) (css2:=css2) (rw_:=rw_) (hs:=hs.take H) (hs2:=hs2) (cap2:=cap2)
   ?_ (k3.take H) hv2 e2 ?_ news hst ?_ hfin
  .rw[r5,Ub k3.len,hlH]
   exact k1.take r2
  .refine List.pairwise_cons.2 ⟨fun q hq=>?_,List.pairwise_append.2 ⟨hpl.2.sublist (List.take_sublist _ _),p2,fun q hq q2 hq2=>hcross q (List.mem_cons_of_mem _ (List.mem_of_mem_take hq)) q2 hq2⟩⟩
   rcases List.mem_append.1 hq with hq|hq
   .exact hpl.1 q (List.mem_of_mem_take hq)
   .exact hcross rw_ (by simp) q hq
  .intro q hq b ob hb
   have old:q∈rw_::hs-> ∃t,t∈st.live/\t∈t1::a2/\gh.F t b=some ob:=fun hq=>⟨t1,htl,by simp,k2.2 q hq b ob hb⟩
   rcases List.mem_cons.1 hq with e|hq
   .exact old (by simp[e])
   .rcases List.mem_append.1 hq with hq|hq
    .exact old (List.mem_cons_of_mem _ (List.mem_of_mem_take hq))
    .obtain⟨t,t1',t2,t3⟩:=u2 q hq b ob hb
     exact⟨t,s1 t t1',by simp[t2],t3⟩
end
end
section

def Pt (s:ByteArray):List Value:=s.data.toList.map fun b=>Value.int .u8 (b.toNat:Int)
theorem By5 (s:ByteArray):(Pt s).length=s.size:=by unfold Pt;simp
theorem Axf {P:Program} (w:World) (sz:Nat) (s:ByteArray):(Builtin.firstCells sz s.size (.string s)).run P w= .ok (Pt s).toArray w:=by
 have hx:(Array.map (fun b:UInt8=>Value.int IntKind.u8 (b.toNat:Int)) s.data).extract 0 s.size=Array.map (fun b:UInt8=>Value.int IntKind.u8 (b.toNat:Int)) s.data:=by
  have hs:s.size=(Array.map (fun b:UInt8=>Value.int IntKind.u8 (b.toNat:Int)) s.data).size:=by rw[Array.size_map];rfl
  rw[hs,Array.extract_size]
 have hy:(Pt s).toArray=Array.map (fun b:UInt8=>Value.int IntKind.u8 (b.toNat:Int)) s.data:=by
  unfold Pt
  apply Array.ext'
  simp
 rw[hy]
 simp[Builtin.firstCells,hx]
theorem Ak5 {P:Program} (w:World) (t u ty e:TypeId) (i:TypeInfo) (z:Value) (ht:P.underlying t=some (.slice e)) (hu:P.underlying u=some .string) (hi:P.info? e=some i) (hz:i.zero=some z)
  (b:Addr) (sLen sCap:Nat) (olds:List Value) (hlo:olds.length=sLen*i.size) (holds: ∀j v,olds[j]? =some v->w.cell? (b.add j)=some v) (s:ByteArray)
  (hg:sCap<sLen+s.size) (h63:((sLen+s.size:Nat):Int)<=9223372036854775807) (hfit:Builtin.nextslicecap (sLen+s.size) sCap*i.bytes<=281474976710656):
  (Builtin.append_ #[t,u] ty #[.slice (some b) sLen sCap,.string s]).run P w=
   .ok (.slice (some ⟨w.heap.size,0,none⟩) (sLen+s.size) (grownCap w (sLen+s.size) sCap e))
    (w.drew.alloc (.cells (olds.toArray++(Pt s).toArray++Builtin.zeroCells z.cells (grownCap w (sLen+s.size) sCap e-(sLen+s.size))) e)):=by
 have hn: ¬(sLen+s.size<=sCap):=by omega
 have h63': ¬(9223372036854775807<((sLen:Int)+(s.size:Int))):=by omega
 have h48': ¬(281474976710656<Builtin.nextslicecap (sLen+s.size) sCap*i.bytes):=by omega
 have hf:=Axf (P:=P) w.drew i.size s
 have hfo:=run_firstCells_some (P:=P) w.drew i.size sLen b sLen sCap olds hlo (by simpa using holds)
 simp[Builtin.append_,run_underlying ht,run_underlying hu,sizeOf,typeInfo,zeroValue,hi,hz,Builtin.lenOf,hn,h63',h48',Question.forced,hf,hfo,newRow,grownCap]
 congr 2
 apply Array.ext'
 simp[List.append_assoc]
theorem A8l {P:Program} (w:World) (t u ty e:TypeId) (i:TypeInfo) (z:Value) (ht:P.underlying t=some (.slice e)) (hu:P.underlying u=some .string) (hi:P.info? e=some i) (hz:i.zero=some z)
  (s:ByteArray) (h0:0<s.size) (h63:(s.size:Int)<=9223372036854775807) (hfit:Builtin.nextslicecap (0+s.size) 0*i.bytes<=281474976710656):
  (Builtin.append_ #[t,u] ty #[.slice none 0 0,.string s]).run P w=
   .ok (.slice (some ⟨w.heap.size,0,none⟩) (0+s.size) (grownCap w (0+s.size) 0 e))
    (w.drew.alloc (.cells (([]:List Value).toArray++(Pt s).toArray++Builtin.zeroCells z.cells (grownCap w (0+s.size) 0 e-(0+s.size))) e)):=by
 have hn:s.size≠0:=by omega
 have h63': ¬(9223372036854775807<(s.size:Int)):=by omega
 rw[Nat.zero_add]at hfit ⊢
 have h48': ¬(281474976710656<Builtin.nextslicecap s.size 0*i.bytes):=by omega
 have hf:=Axf (P:=P) w.drew i.size s
 have hfo:(Builtin.firstCells i.size 0 (.slice none 0 0)).run P w.drew= .ok #[] w.drew:=by simp[Builtin.firstCells]
 simp[Builtin.append_,run_underlying ht,run_underlying hu,sizeOf,typeInfo,zeroValue,hi,hz,Builtin.lenOf,hn,h63',h48',Question.forced,hf,hfo,newRow,grownCap]
theorem A8m {P:Program} (w:World) (t u ty e:TypeId) (i:TypeInfo) (ht:P.underlying t=some (.slice e)) (hu:P.underlying u=some .string) (hi:P.info? e=some i)
  (g sLen sCap:Nat) (cur:Array Value) (hg:w.heap[g]? =some (.cells cur e (0,0))) (s:ByteArray) (h1:i.size=1)
  (hroom:sLen+s.size<=sCap) (hfit:sLen*i.size+(Pt s).length<=cur.size):
  (Builtin.append_ #[t,u] ty #[.slice (some ⟨g,0,none⟩) sLen sCap,.string s]).run P w=
   .ok (.slice (some ⟨g,0,none⟩) (sLen+s.size) sCap) (w.setRow g (cur.toList.take (sLen*i.size)++Pt s++cur.toList.drop (sLen*i.size+(Pt s).length)).toArray):=by
 have hf:=Axf (P:=P) w i.size s
 have hone: ∀v∈Pt s,v.oneCell'=true:=fun v hv=>by
  obtain⟨b,_,rfl⟩:=List.mem_map.1 hv
  rfl
 have hst:=run_storeCells_at P g (sLen*i.size) e (Pt s) 0 cur w hg (by simpa using hfit) hone
 simp only[Nat.add_zero]at hst
 simp[Builtin.append_,run_underlying ht,run_underlying hu,sizeOf,typeInfo,hi,Builtin.lenOf,hroom,hf,Addr.add_lit,hst]
theorem Bmv {P:Program} (w:World) (t u ty e:TypeId) (i:TypeInfo) (z:Value) (ht:P.underlying t=some (.slice e)) (hu:P.underlying u=some .string) (hi:P.info? e=some i) (hz:i.zero=some z) (hsz:i.size=1)
  (hzs:z.cells.size=1) {f:Ac} {v:Value} {n:Nat} {xs:List Value} (hs:Dw e 1 f v n xs) (hf:Bu f w) (s:ByteArray) (h0:0<s.size) (h63:n+s.size<=maxLen) (hb:(n+s.size)*i.bytes<=140737488355328):
  ∃v' w' f',(Builtin.append_ #[t,u] ty #[v,.string s]).run P w= .ok v' w'/\Dw e 1 f' v' (n+s.size) (xs++Pt s)/\Bu f' w'/\
   ((w'=w/\f'=f/\v'=v/\s.size=0)\/
    (∃b C D cap,v= .slice (some ⟨b,0,none⟩) n cap/\n<cap/\v'= .slice (some ⟨b,0,none⟩) (n+s.size) cap/\f b=some (.cells C e (0,0))/\w'=w.setRow b D/\(∀i,i<n*1->D[i]? =C[i]?)/\f'=Ac.one b (.cells D e (0,0)))\/
    (∃b D cap,Dc w w'/\b=w.heap.size/\v'= .slice (some ⟨b,0,none⟩) (n+s.size) cap/\f'=Ac.one b (.cells D e (0,0)))):=by
 have hsmall:n+s.size<=9223372036854775807:=by simp only[maxLen]at h63;omega
 have hl:(Pt s).length=s.size*1:=by rw[By5];omega
 rcases hs.2 with⟨⟨a,rfl⟩,rfl⟩|⟨b,cap,cur,rfl,hgb,hnc,hcap,hcs,htake⟩
 .have hxs:xs=[]:=List.eq_nil_of_length_eq_zero (by simpa using hs.1)
  subst hxs
  have hr:(Builtin.append_ #[t,u] ty #[.slice a 0 0,.string s]).run P w=
    .ok (.slice (some ⟨w.heap.size,0,none⟩) (0+s.size) (grownCap w (0+s.size) 0 e)) (w.drew.alloc (.cells (([]:List Value).toArray++(Pt s).toArray++Builtin.zeroCells z.cells (grownCap w (0+s.size) 0 e-(0+s.size))) e)):=by
   cases a with
   |none=>exact A8l w t u ty e i z ht hu hi hz s h0 (by omega) (growslice_fits (by omega) hb)
   |some ad=>exact Ak5 w t u ty e i z ht hu hi hz ad 0 0 [] (by simp) (by simp) s (by omega) (by omega) (growslice_fits (by omega) hb)
  exact⟨_,_,_,hr,Ab2 w e 1 z hzs [] (Pt s) 0 s.size (0+s.size) 0 (by simp) hl rfl h63,Qw (heap_alloc_new w.drew _),.inr (.inr ⟨_,_,_,(Dc.refl w).drew.alloc _,rfl,rfl,rfl⟩)⟩
 .by_cases hroom:n+s.size<=cap
  .have hfit:n*i.size+(Pt s).length<=cur.size:=by rw[hl,hcs,hsz,<-Nat.add_mul];exact Nat.mul_le_mul_right _ hroom
   have hr:=A8m (P:=P) w t u ty e i ht hu hi b n cap cur (hf b _ hgb) s hsz hroom hfit
   rw[hsz]at hr hfit
   have hlen:(xs++Pt s).length=(n+s.size)*1:=by rw[List.length_append,hs.1,hl,Nat.add_mul]
   refine⟨_,_,_,hr,⟨hlen,.inr ⟨b,cap,_,rfl,Qx _ _,hroom,hcap,?_,?_⟩⟩,Qw (setRow_heap w b cur _ e _ (hf b _ hgb)),.inr (.inl ⟨b,cur,_,cap,rfl,by omega,rfl,hgb,rfl,fun j hj=>?_,rfl⟩)⟩
   .simp only[List.size_toArray,List.length_append,List.length_take,List.length_drop,Array.length_toList]
    omega
   .rw[htake,<-hlen]
    exact List.take_left
   .have hle:n*1<=cur.size:=by omega
    simp only[List.getElem?_toArray]
    rw[List.append_assoc,List.getElem?_append_left (by simp;omega),List.getElem?_take,if_pos hj]
    simp
  .have holds: ∀j v,xs[j]? =some v->w.cell? ((⟨b,0,none⟩:Addr).add j)=some v:=fun j v hv=>by
    rw[Addr.add_mid,cell_of_row w b _ cur e (0,0) (hf b _ hgb),Nat.zero_add]
    rw[<-htake,List.getElem?_take]at hv
    split at hv
    .simpa using hv
    .cases hv
   have hr:=Ak5 (P:=P) w t u ty e i z ht hu hi hz ⟨b,0,none⟩ n cap xs (by rw[hsz];exact hs.1) holds s (by omega) (by omega) (growslice_fits (by omega) hb)
   exact⟨_,_,_,hr,Ab2 w e 1 z hzs xs (Pt s) n s.size (n+s.size) cap hs.1 hl rfl h63,Qw (heap_alloc_new w.drew _),.inr (.inr ⟨_,_,_,(Dc.refl w).drew.alloc _,rfl,rfl,rfl⟩)⟩
theorem Bwt (s:ByteArray): ∃css:List (List Value),Cd 1 (fun h c d=>By h [.int .u8] d c) (List.replicate (L8 s).length Ac.emp) css (L8 s)/\css.flatten=Pt s:=by
 have key: ∀l:List UInt8,∃css:List (List Value),Cd 1 (fun h c (d:dens [.int .u8])=>By h [.int .u8] d c) (List.replicate l.length Ac.emp) css (l.map fun b=>((b.toNat:Int),()))/\css.flatten=l.map fun b=>Value.int .u8 (b.toNat:Int):=by
  intro l
  refine⟨l.map fun b=>[Value.int .u8 (b.toNat:Int)],⟨by simp,by simp,fun i h c d e1 e2 e3=>?_⟩,?_⟩
  .rw[List.getElem?_map]at e2 e3
   cases hb:l[i]? with
   |none=>rw[hb]at e2;cases e2
   |some b=>
    rw[hb]at e2 e3
    simp only[Option.map_some,Option.some.injEq]at e2 e3
    subst e2 e3
    refine⟨rfl,?_⟩
    simp only[By,Bf]
    have hb:=b.toNat_lt
    exact⟨_,_,Ac.emp,Ac.emp,rfl,⟨List.pairwise_cons.2 ⟨fun x hx=>by simp at hx;subst hx;exact Ac.apart_emp _,List.pairwise_singleton _ _⟩,fun g hg=>by simp at hg;subst hg;exact Ac.emp_sub _⟩,⟨rfl,by simp[Lit.wf,IntKind.min,IntKind.max,IntKind.signed,IntKind.bits];omega⟩,rfl⟩
  .induction l with
   |nil=>rfl
   |cons a r ih=>simp[ih]
 obtain⟨css,h1,h2⟩:=key s.data.toList
 exact⟨css,by simpa [L8] using h1,h2⟩
section
variable {P:Program} {g:Cfg} (hC:CfgOk P g) {cx:Cx} {gh:Gh} {st:St} {a:Act} {w:World} {nt:Nat} (hM:RM cx gh st w) (hE:Env nt cx gh st a)
 {o:Oper} {ρ:Type} {k:PV->Ef->Option ρ} {r:ρ} {next:Act->World->Prop} {Q:Exit->Act->World->Prop}
 (hk: ∀pv ef,k pv ef=some r-> ∃st',ef.app o.dst st=some st')
 (hn: ∀gh' pv ef st' v w',k pv ef=some r->ef.app o.dst st=some st'->RM cx gh' st' w'->Ext gh st gh' st'->st'.env=st.env->VR cx gh' st' pv v->next (a.put o.dst v) w')
include hC hM hE hk hn
theorem Bpi {x:Operand} {t:Nat} {T:Ty} {e0 dn:Nat} {c0:List Sh} {l m:List (dens c0)} {ctok:Tok} {at1 live':List Nat} {css2:List (List Value)} {hs2:List Ac} (hT:g.ty t=some T)
  (hag:T.agg=false) (hsh:T.shs=[.sl e0 c0]) (hcc:CR cx gh st ⟨.sl e0 c0,l,ctok⟩ (a.eval x)) (hbt:Aw4 ctok=some at1) (hg1:Ss ⟨.sl e0 c0,l,ctok⟩=some at1)
  (e2:Cd c0.length (fun h c d=>By h c0 d c) hs2 css2 m) (hemp: ∀h,h∈hs2->h=Ac.emp)
  (hexec: ∀ {f:Ac} {xs:List Value},Dw e0 c0.length f (a.eval x) l.length xs->Bu f w-> ∃v' w' f',(execOp a.eval o).run P w= .ok (.value v') w'/\Dw e0 c0.length f' v' (List.length (α:=dens c0) l+List.length (α:=dens c0) m) (xs++css2.flatten)/\Bu f' w'/\
   ((w'=w/\f'=f/\v'=a.eval x/\List.length (α:=dens c0) m=0)\/
    (∃b C D cap,a.eval x= .slice (some ⟨b,0,none⟩) (List.length (α:=dens c0) l) cap/\List.length (α:=dens c0) l<cap/\v'= .slice (some ⟨b,0,none⟩) (List.length (α:=dens c0) l+List.length (α:=dens c0) m) cap/\f b=some (.cells C e0 (0,0))/\w'=w.setRow b D/\(∀i,i<List.length (α:=dens c0) l*c0.length->D[i]? =C[i]?)/\f'=Ac.one b (.cells D e0 (0,0)))\/
    (∃b D cap,Dc w w'/\b=w.heap.size/\v'= .slice (some ⟨b,0,none⟩) (List.length (α:=dens c0) l+List.length (α:=dens c0) m) cap/\f'=Ac.one b (.cells D e0 (0,0)))))
  (h:k (.v false [⟨.sl e0 c0,(l++m:List (dens c0)),.own (64*dn)⟩]) (.toks at1 [64*dn])=some r)
  (hst:(Ef.toks at1 [64*dn]).app o.dst st=some {st with live:=(64*dn)::live',used:=(64*dn)::st.used})
  (heat1:eat st.live at1=some live') (hnewt:(64*dn)∉st.used):o.wp P a w next Q:=by
 obtain⟨fb,hO,s1,n1,u1⟩:=Aw6 hM (fun _ h=>h) hM.nodup hcc hg1 heat1
 have s2: ∀t,t∈live'->t∈live':=fun _ h=>h
 have n2:=n1
 have p2:hs2.Pairwise Ac.apart:=by
  clear e2
  induction hs2 with
  |nil=>exact .nil
  |cons q r ih=>exact List.pairwise_cons.2 ⟨fun z hz=>by rw[hemp z (by simp[hz])];exact Ac.apart_emp _,ih (fun z hz=>hemp z (by simp[hz]))⟩
 have u2: ∀h,h∈hs2-> ∀b o,h b=some o-> ∃t,t∈live'/\t∉live'/\gh.F t b=some o:=fun h hh b o hb=>by rw[hemp h hh]at hb;cases hb
 have hroom:Ua gh.G c0.length (a.eval x):=by
  obtain⟨_,h2⟩:=hcc
  cases ctok with
  |nil=>
   obtain⟨ad,he⟩:=h2 _ _ rfl
   intro b n cap hv hlt
   rw[he]at hv;cases hv;omega
  |own t'=>
   simp only at h2
   refine(h2.2 ?_).2.1
   simp[Ss]at hg1
   subst hg1
   simp only[eat]at heat1
   cases hct:st.live.contains t' with
   |true=>simpa using hct
   |false=>rw[hct]at heat1;cases heat1
  |row t'=>cases hg1
  |_=>cases hbt
 simp only[Bf]at hO
 obtain⟨css,rw_,hs,r1,r2,r3⟩:=hO
 have hliesb: ∀h,h∈rw_::hs->Bu h w:=fun h hh b o hb=>by
  obtain⟨t,t1,_,t3⟩:=u1 b o (r2.2 h hh b o hb)
  exact(hM.tok t t1).2.1 b o t3
 obtain⟨v',w',f',hrun,hrow,hlf',hcases⟩:=hexec r1 (hliesb rw_ (by simp))
 have hf': ∀b ob,f' b=some ob->(∃ob',rw_ b=some ob')\/b=w.heap.size:=by
  intro b ob hb
  rcases hcases with⟨_,rfl,_,_⟩|⟨b',C,D,cap,_,_,_,hC',_,_,rfl⟩|⟨b',D,cap,_,hbw,_,rfl⟩
  .exact .inl ⟨ob,hb⟩
  .simp only[Ac.one]at hb
   split at hb
   .rename_i e;subst e;exact .inl ⟨_,hC'⟩
   .cases hb
  .simp only[Ac.one]at hb
   split at hb
   .rename_i e;subst e;exact .inr hbw
   .cases hb
 have hcons: ∀b ob,(∃h,h∈rw_::hs/\h b=some ob)\/(∃h,h∈hs2/\h b=some ob)-> ∃t,t∈st.live/\t∉live'/\gh.F t b=some ob:=by
  rintro b ob (⟨h,hh,hb⟩|⟨h,hh,hb⟩)
  .obtain⟨t,t1,t2,t3⟩:=u1 b ob (r2.2 h hh b ob hb)
   exact⟨t,t1,fun hm=>t2 (s2 t hm),t3⟩
  .obtain⟨t,t1,t2,t3⟩:=u2 h hh b ob hb
   exact⟨t,s1 t t1,t2,t3⟩
 have hltc: ∀b ob,((∃h,h∈rw_::hs/\h b=some ob)\/(∃h,h∈hs2/\h b=some ob))->b<w.heap.size:=fun b ob hh=>by
  obtain⟨t,t1,_,t3⟩:=hcons b ob hh
  exact(hM.tok t t1).2.1.lt _ _ t3
 have hap12: ∀h,h∈rw_::hs-> ∀h2,h2∈hs2->h.apart h2:=fun h hh h2 hh2 b=>by
  cases e1:h b with
  |none=>exact .inl rfl
  |some o1=>
   right
   cases e2:h2 b with
   |none=>rfl
   |some o2=>
    obtain⟨t,t1,t2,t3⟩:=u1 b o1 (r2.2 h hh b o1 e1)
    obtain⟨q,q1,q2,q3⟩:=u2 h2 hh2 b o2 e2
    have hne:t≠q:=fun e=>t2 (e▸q1)
    rcases hM.apart t q t1 (s1 q q1) hne b with k1|k1
    .rw[k1]at t3;cases t3
    .rw[k1]at q3;cases q3
 have hapf: ∀h,h∈hs++hs2->f'.apart h:=fun h hh b=>by
  cases e1:f' b with
  |none=>exact .inl rfl
  |some o1=>
   right
   cases e2:h b with
   |none=>rfl
   |some o2=>
    exfalso
    rcases hf' b o1 e1 with⟨ob',hb'⟩|rfl
    .rcases List.mem_append.1 hh with hh|hh
     .rcases(List.pairwise_cons.1 r2.1).1 h hh b with k1|k1
      .rw[k1]at hb';cases hb'
      .rw[k1]at e2;cases e2
     .rcases hap12 rw_ (by simp) h hh b with k1|k1
      .rw[k1]at hb';cases hb'
      .rw[k1]at e2;cases e2
    .have:=hltc w.heap.size o2 (by
      rcases List.mem_append.1 hh with hh|hh
      .exact .inl ⟨h,by simp[hh],e2⟩
      .exact .inr ⟨h,hh,e2⟩)
     omega
 obtain⟨f,hf1,hf2⟩:=Ak3 (f'::(hs++hs2)) (List.pairwise_cons.2 ⟨hapf,List.pairwise_append.2 ⟨(List.pairwise_cons.1 r2.1).2,p2,fun h hh h2 hh2=>hap12 h (by simp[hh]) h2 hh2⟩⟩)
 have hO':Bf f (.sl e0 c0) (l++m:List (dens c0)) v':=by
  simp only[Bf]
  refine⟨css++css2,f',hs++hs2,?_,hf1,r3.app e2⟩
  rw[List.length_append,List.flatten_append]
  exact hrow
 obtain⟨M1,E1⟩:=hM.drop (live:=live') (fun t ht=>s1 t (s2 t ht)) n2
 have hnone: ∀b ob,((∃h,h∈rw_::hs/\h b=some ob)\/(∃h,h∈hs2/\h b=some ob))->Fu cx b/\(∀t,t∈live'->gh.F t b=none)/\ ∀k,st.has k=true->gh.B k≠b:=fun b ob hh=>by
  obtain⟨t,t1,t2,t3⟩:=hcons b ob hh
  refine⟨(hM.tok t t1).2.2 b ob t3,fun q hq=>?_,fun k hk he=>?_⟩
  .have hne:q≠t:=fun e=>t2 (e▸hq)
   rcases hM.apart q t (s1 q (s2 q hq)) t1 hne b with k1|k1
   .exact k1
   .rw[k1]at t3;cases t3
  .rw[<-he,hM.tokBox t k t1 hk]at t3;cases t3
 have hM2:RM cx gh {st with live:=live'} w':=by
  rcases hcases with⟨rfl,_⟩|⟨b',C,D,cap,hv,hnc,_,hC',rfl,hD,_⟩|⟨b',D,cap,hG,_⟩
  .exact M1
  .have hb:=hnone b' _ (.inl ⟨rw_,by simp,hC'⟩)
   have hblk:=hliesb rw_ (by simp) b' _ hC'
   refine M1.setRow hblk hb.1 (fun oo vv hgv=>?_) hb.2.2 hb.2.1
   have hlt:oo<List.length (α:=dens c0) l*c0.length:=by
    rcases Nat.lt_or_ge oo (List.length (α:=dens c0) l*c0.length)with h|h
    .exact h
    .rw[hroom b' _ cap hv hnc oo h]at hgv;cases hgv
   rw[hD oo hlt]
   have:=hM.lies b' oo vv hgv
   rw[cell_of_row w b' oo C e0 (0,0) hblk]at this
   exact this
  .exact M1.world hG
 have hlf:Bu f w':=fun b ob hb=>by
  obtain⟨h,hh,hb⟩:=hf2 b ob hb
  rcases List.mem_cons.1 hh with rfl|hh'
  .exact hlf' b ob hb
  .have hold:w.heap[b]? =some ob:=by
    rcases List.mem_append.1 hh' with q|q
    .exact hliesb h (by simp[q]) b ob hb
    .obtain⟨t,t1,_,t3⟩:=u2 h q b ob hb
     exact(hM.tok t (s1 t t1)).2.1 b ob t3
   rcases hcases with⟨rfl,_⟩|⟨b',C,D,cap,_,_,_,hC',rfl,_,hfe⟩|⟨b',D,cap,hG,_⟩
   .exact hold
   .rw[setRow_other w b' b D (fun e=>by
     subst e
     rcases hapf h hh' b with k1|k1
     .rw[hfe]at k1;simp[Ac.one]at k1
     .rw[k1]at hb;cases hb)]
    exact hold
   .rw[hG.block b (Array.getElem?_eq_some_iff.1 hold).1];exact hold
 have hr':Ua gh.G (Kr (.sl e0 c0)) v':=by
  rcases hcases with⟨_,_,rfl,hm0⟩|⟨b',C,D,cap,hv,hnc,hv',_,_,_,_⟩|⟨b',D,cap,hG,hbw,hv',_⟩
  .exact hroom
  .intro b n cp e hlt oo hoo
   rw[hv']at e;cases e
   refine hroom b' _ cap hv hnc oo (Nat.le_trans (Nat.mul_le_mul_right _ ?_) hoo)
   omega
  .intro b n cp e hlt oo hoo
   rw[hv']at e;cases e
   subst hbw
   exact Vp hM.lies (Nat.le_refl _) oo
 obtain⟨gh',M',E',C',_⟩:=A32 hM2 hnewt (live':=live') (fun _ h=>h) n2 hlf (s:=.sl e0 c0) (hsl:=rfl) (hf:=fun b ob hb=>by
  left
  obtain⟨h,hh,hb⟩:=hf2 b ob hb
  rcases List.mem_cons.1 hh with rfl|hh
  .rcases hf' b ob hb with⟨ob',hb'⟩|rfl
   .exact hnone b ob' (.inl ⟨rw_,by simp,hb'⟩)
   .have:=Es hM (Nat.le_refl w.heap.size)
    exact⟨this.1,fun t ht=>this.2.1 t (s1 t (s2 t ht)),this.2.2⟩
  .rcases List.mem_append.1 hh with q|q
   .exact hnone b ob (.inl ⟨h,by simp[q],hb⟩)
   .exact hnone b ob (.inr ⟨h,q,hb⟩)) (hO:=hO') (hr:=hr')
 refine C9 (v:=v') (w':=w') ?_ (hn gh' _ _ _ _ _ h hst M' (E1.trans E') rfl (show VR cx gh' _ (.v false [⟨.sl e0 c0,(l++m:List (dens c0)),.own (64*dn)⟩]) _ from⟨C',trivial⟩))
 exact hrun
theorem Btv {x y:Operand} {t u:Nat} (ho:o.op= .call {callee:=.builtin .append,args:= #[x,y],argTypes:= #[t,u]}) {T U:Ty} {c d:Cl} {dn:Nat} (hT:g.ty t=some T) (hU:g.ty u=some U) (hc:ev1 g.ty st t x=some c) (hd:ev1 g.ty st u y=some d) (hdn:o.dst=some dn)
  (h:T9 T U (64*dn) c d (fun r ef=>k (.v false [r]) ef)=some r):o.wp P a w next Q:=by
 have hcc:=Kh hE hc
 have hcd:=Kh hE hd
 unfold T9 at h
 split at h
 case h_2=>cases h
 rename_i e0 e1 l ctok s dtok hag hsh hUag hUsh
 obtain⟨at1,hb1,h1⟩:=Ah h
 obtain⟨hrow0,h2⟩:=Bb h1
 obtain⟨he,h3⟩:=Bb h2
 obtain⟨hbd,h4⟩:=Bb h3
 obtain⟨hpos,hfin⟩:=Bb h4
 clear h1 h2 h3 h4 h
 have he:=Nat.eq_of_beq_eq_true he
 subst he
 have hbd:=of_decide_eq_true hbd
 have hpos:0<(s:ByteArray).size:=Nat.le_of_ble_eq_true hpos
 obtain⟨st',hst⟩:=hk _ _ hfin
 obtain⟨live',heat,hnewt,hst2⟩:=Ak2 hst
 subst hst2
 have hg1:Ss ⟨.sl e1 [.int .u8],l,ctok⟩=some at1:=by
  cases ctok with
  |own t=>exact hb1
  |nil=>exact hb1
  |row t=>cases hrow0
  |_=>cases hb1
 have ey:a.eval y= .string s:=hcd.1
 obtain⟨css2,e2,hfl⟩:=Bwt s
 have hlm:(L8 s).length=(s:ByteArray).size:=by simp[L8]
 obtain⟨hu,z,by_,hR,hb2,hz⟩:=(hC.ty t T hT).sl e1 [.int .u8] hag hsh
 obtain⟨ie,hi1,hi2,hi3,hi4⟩:=hR.info
 have hus:=(hC.ty u U hU).str hUag hUsh
 refine Bpi (st:=st) (m:=L8 s) (css2:=css2) (hs2:=List.replicate (L8 s).length Ac.emp) hC hM hE hk hn hT hag hsh hcc hb1 hg1 e2 (fun h hh=>(List.mem_replicate.1 hh).2) (fun {f xs} hO hl=>?_) hfin hst heat hnewt
 obtain⟨v',w',f',hrun,hrow,hlf',hcases⟩:=Bmv (P:=P) w t u o.type e1 ie z hu hus hi1 hi2 hi3 hR.hz hO hl s hpos (by unfold maxLen;omega) (by
  rw[hi4]
  have:(List.length (α:=dens [.int .u8]) l+(s:ByteArray).size)*by_<=4294967296*4096:=Nat.mul_le_mul hbd hb2
  omega)
 refine⟨v',w',f',?_,by rw[hfl,hlm];exact hrow,hlf',by rw[hlm];exact hcases⟩
 unfold execOp;rw[ho]
 simp only[resolve,invoke,builtin,Sem.run_bind,Sem.run_pure,Result.andThen_ok,List.map_toArray,List.map_cons,List.map_nil,ey,hrun]
end
section
variable {P:Program} {g:Cfg} (hC:CfgOk P g) {cx:Cx} {gh:Gh} {st:St} {a:Act} {w:World} {nt:Nat} (hM:RM cx gh st w) (hE:Env nt cx gh st a)
 {o:Oper} {ρ:Type} {k:PV->Ef->Option ρ} {r:ρ} {next:Act->World->Prop} {Q:Exit->Act->World->Prop}
 (hk: ∀pv ef,k pv ef=some r-> ∃st',ef.app o.dst st=some st')
 (hn: ∀gh' pv ef st' v w',k pv ef=some r->ef.app o.dst st=some st'->RM cx gh' st' w'->Env nt cx gh' st' a->VR cx gh' st' pv v->next (a.put o.dst v) w')
include hC hM hE hk hn
theorem Bwu (hn0: ∀gh' pv ef st' v w',k pv ef=some r->ef.app o.dst st=some st'->RM cx gh' st' w'->Ext gh st gh' st'->st'.env=st.env->VR cx gh' st' pv v->next (a.put o.dst v) w')
  {args:Array Operand} {ts:Array TypeId} (ho:o.op= .call {callee:=.builtin .append,args:=args,argTypes:=ts}) (h:(match args.toList,ts.toList with
  |[x,y],[t,u]=>cond (Nat.beq t u) (ob (g.ty t) fun T=>ob (ev1 g.ty st t x) fun c=>ob (ev1 g.ty st t y) fun d=>ob o.dst fun n=>Zu T (64*n) c d fun r ef=>
   k (.v false [r]) ef)
   (ob (g.ty t) fun T=>ob (g.ty u) fun U=>ob (ev1 g.ty st t x) fun c=>ob (ev1 g.ty st u y) fun d=>ob o.dst fun n=>T9 T U (64*n) c d fun r ef=>k (.v false [r]) ef)
  |_,_=>none)=some r):o.wp P a w next Q:=by
 split at h
 .rename_i _ _ x y t u ha ht
  have ha':args= #[x,y]:=by rw[<-Array.toArray_toList (xs:=args),ha]
  have ht':ts= #[t,u]:=by rw[<-Array.toArray_toList (xs:=ts),ht]
  subst ha' ht'
  clear ha ht
  cases htu:Nat.beq t u with
  |false=>
   rw[htu]at h
   obtain⟨T,hT,h⟩:=Ah (show ob (g.ty t) _=some r from h)
   obtain⟨U,hU,h⟩:=Ah h
   obtain⟨c,hc,h⟩:=Ah h
   obtain⟨d,hd,h⟩:=Ah h
   obtain⟨dn,hdn,h⟩:=Ah h
   exact Btv hC hM hE hk hn0 ho hT hU hc hd hdn h
  |true=>
  rw[htu]at h
  have hx1:=h
  simp only[cond_true]at hx1
  have htu:=Nat.eq_of_beq_eq_true htu
  subst htu
  clear h
  obtain⟨T,hT,h⟩:=Ah hx1
  obtain⟨c,hc,h⟩:=Ah h
  obtain⟨d,hd,h⟩:=Ah h
  obtain⟨dn,hdn,h⟩:=Ah h
  unfold Zu at h
  split at h
  .exact Btu hC hM hE hk hn ho hT hc hd hdn h
  .exact Btr hC hM hE hk hn0 ho hT hc hd hdn h
 .cases h
end
end
section

theorem A8n {P:Program} {g:Cfg} (hC:CfgOk P g) {cx:Cx} {gh:Gh} {st:St} {a:Act} {w:World} {nt:Nat} (hM:RM cx gh st w) (hE:Env nt cx gh st a)
  {o:Oper} {ρ:Type} {k:PV->Ef->Option ρ} {r:ρ} {next:Act->World->Prop} {Q:Exit->Act->World->Prop}
  (hk: ∀pv ef,k pv ef=some r-> ∃st',ef.app o.dst st=some st')
 (hn: ∀gh' pv ef st' v w',k pv ef=some r->ef.app o.dst st=some st'->RM cx gh' st' w'->Env nt cx gh' st' a->VR cx gh' st' pv v->next (a.put o.dst v) w')
  (h:Qy g st o k=some r):o.wp P a w next Q:=by
 unfold Qy at h
 have hn0: ∀gh' pv ef st' v w',k pv ef=some r->ef.app o.dst st=some st'->RM cx gh' st' w'->Ext gh st gh' st'->st'.env=st.env->VR cx gh' st' pv v->next (a.put o.dst v) w':=
  fun gh' pv ef st' v w' hr ha m e he hv=>hn gh' pv ef st' v w' hr ha m (hE.ext' e he) hv
 split at h
 .rename_i ho;exact Bqg hC hM hE hk hn0 (.inl ho) h
 .rename_i ho;exact Bqg hC hM hE hk hn0 (.inr ho) h
 .rename_i ho;exact B0o hC hM hE hk hn0 ho h
 .rename_i ho;exact Byn hC hM hE hk hn0 ho h
 .rename_i ho;exact B17 hC hM hE hk hn0 ho h
 .rename_i ho;exact B0q hC hM hE hk hn0 ho h
 .rename_i ho;exact By0 hC hM hE hk hn ho h
 .rename_i ho;exact Bmk hC hM hE hk hn0 ho h
 .rename_i ho;exact Bml hC hM hE hk hn0 ho h
 .rename_i ho;exact Byo hC hM hE hk hn0 ho h
 .rename_i ho;exact Bph hC hM hE hk hn0 ho h
 .rename_i ho;exact Byt hC hM hE hk hn0 ho h
 .rename_i ho;exact B0t hC hM hE hk hn0 ho h
 .rename_i ho;exact Bts hC hM hE hk hn0 ho h
 .rename_i ho;exact Byr hC hM hE hk hn0 ho h
 .rename_i ho;exact Bi4 hC hM hE hk hn0 ho h
 .rename_i ho;exact Bmn hC hM hE hk hn0 ho h
 .rename_i ho;exact Byp hC hM hE hk hn0 ho h
 .rename_i ho;exact Btp hC hM hE hk hn0 ho h
 .rename_i ho;exact B2a hC hM hE hk hn0 ho h
 .rename_i ho;exact Bwu hC hM hE hk hn hn0 ho h
 .rename_i ho;exact B2b hC hM hE hk hn0 ho h
 .rename_i ho;exact B2c hC hM hE hk hn0 ho h
 .rename_i ho
  split at h
  .rename_i hkd;exact Byv hC hM hE hk hn0 ho hkd h
  .rename_i hkd;exact Byw hC hM hE hk hn0 ho hkd h
  .rename_i hkd;exact Byx hC hM hE hk hn0 ho hkd h
  .rename_i hkd;exact Byy hC hM hE hk hn0 ho hkd h
  .rename_i hkd
   obtain⟨ps,hps,h⟩:=Ah h
   obtain⟨vs,hvs,h⟩:=Ah h
   obtain⟨rd,hrd,h⟩:=Ah h
   split at h
   .rename_i hel;exact By2 hC hM hE hk hn ho hkd hps hvs hrd hel h
   .exact By3 hC hM hE hk hn ho hkd hps hvs hrd h
  .rename_i hkd
   obtain⟨ps,hps,h⟩:=Ah h
   obtain⟨vs,hvs,h⟩:=Ah h
   exact By4 hC hM hE hk hn ho hkd hps hvs h
 .cases h
end
end Go.Proofs.YthccfdmiejmbaaaGreat

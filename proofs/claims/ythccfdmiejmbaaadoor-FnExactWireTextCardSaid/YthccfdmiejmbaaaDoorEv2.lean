/-
  An evaluator of functions by symbols, part 3, and that what it answers is what a call returns; nothing is assumed.
-/
import Derived.Test.YthccfdmiejmbaaaDoorEv1
namespace Go.Proofs.YthccfdmiejmbaaaDoor
open Go.RowKit
set_option linter.unusedVariables false
set_option linter.unusedSimpArgs false
set_option linter.unusedSectionVars false
section

def At (l:Nat×Nat) (a b:St):Prop:=
 match l.1 with
 |0=>a.get l.2=b.get l.2
 |1=>a.bx l.2=b.bx l.2
 |2=>(l.2∈a.live↔l.2∈b.live)/\(l.2∈a.used↔l.2∈b.used)
 |_=>True
theorem At.refl (l:Nat×Nat) (a:St):At l a a:=by
 unfold At;split<;>first|rfl|exact⟨Iff.rfl,Iff.rfl⟩|trivial
theorem At.symm {l:Nat×Nat} {a b:St} (h:At l a b):At l b a:=by
 unfold At at*;split<;>simp_all
theorem At.trans {l:Nat×Nat} {a b c:St} (h:At l a b) (k:At l b c):At l a c:=by
 unfold At at*;split<;>simp_all
def Cj (L:List (Nat×Nat)) (l:Nat×Nat):Prop:=l∈L\/(9,0)∈L
def Eqv (a b:St):Prop:=∀l,At l a b
def Wf (st:St):Prop:=st.live.Nodup/\ ∀t,t∈st.live->t∈st.used
theorem Hm: ∀ {l live live':List Nat},eat live l=some live'->live.Nodup->(∀t,t∈live'↔t∈live/\t∉l)/\l.Nodup/\ ∀t,t∈l->t∈live
 |[],live,live',h,hn=>by simp[eat]at h;subst h;exact⟨fun t=>by simp,List.nodup_nil,fun t h=>by cases h⟩
 |x::l,live,live',h,hn=>by
  simp only[eat]at h
  cases hc:live.contains x with
  |false=>rw[hc]at h;cases h
  |true=>
   rw[hc]at h
   obtain⟨h1,h2,h3⟩:=Hm h (hn.erase _)
   have hx:x∈live:=by simpa using hc
   refine⟨fun t=>?_,List.nodup_cons.2 ⟨fun hm=>(hn.mem_erase_iff.1 (h3 x hm)).1 rfl,h2⟩,fun t ht=>?_⟩
   .rw[h1,hn.mem_erase_iff,List.mem_cons]
    constructor
    .rintro⟨⟨a,b⟩,c⟩;exact⟨b,fun h=>h.elim a c⟩
    .rintro⟨a,b⟩;exact⟨⟨fun e=>b (.inl e),a⟩,fun e=>b (.inr e)⟩
   .rcases List.mem_cons.1 ht with e|ht'
    .rw[e];exact hx
    .exact List.mem_of_mem_erase (h3 t ht')
theorem Q7: ∀ {l live:List Nat},live.Nodup->l.Nodup->(∀t,t∈l->t∈live)-> ∃live',eat live l=some live'
 |[],live,_,_,_=>⟨live,rfl⟩
 |x::l,live,hn,hl,hm=>by
  have hx:live.contains x=true:=by simpa using hm x (by simp)
  have hl':=List.nodup_cons.1 hl
  obtain⟨live',h⟩:=Q7 (hn.erase x) hl'.2 (fun t ht=>hn.mem_erase_iff.2 ⟨fun e=>hl'.1 (e▸ht),hm t (by simp[ht])⟩)
  exact⟨live',by simp only[eat,hx,cond_true];exact h⟩
theorem Ed: ∀ {m used used':List Nat},F2 used m=some used'->m.Nodup
 |[],used,used',h=>List.nodup_nil
 |t::r,used,used',h=>by
  simp only[F2]at h
  cases hc:used.contains t with
  |true=>rw[hc]at h;cases h
  |false=>
   rw[hc]at h
   exact List.nodup_cons.2 ⟨fun hm=>(Cs h).2 t hm (by simp),Ed h⟩
theorem Ob: ∀ {m used:List Nat},m.Nodup->(∀t,t∈m->t∉used)-> ∃used',F2 used m=some used'
 |[],used,_,_=>⟨used,rfl⟩
 |x::m,used,hn,hm=>by
  have hx:used.contains x=false:=by
   cases hc:used.contains x with
   |false=>rfl
   |true=>exact(hm x (by simp) (List.contains_iff_mem.1 hc)).elim
  have hn':=List.nodup_cons.1 hn
  obtain⟨u,h⟩:=Ob (used:=x::used) hn'.2 (fun t ht he=>by
   rcases List.mem_cons.1 he with e|he'
   .exact hn'.1 (e▸ht)
   .exact hm t (by simp[ht]) he')
  exact⟨u,by simp only[F2,hx,cond_false];exact h⟩
theorem No {d:Option Nat} {ef:Ef} {s s1:St} (h:ef.app d s=some s1) (hw:Wf s):Wf s1:=by
 cases ef with
 |none=>simp[Ef.app]at h;rw[<-h];exact hw
 |fz t s=>
  obtain⟨l,hl,h⟩:=Ab h
  simp at h;subst h
  obtain⟨e1,e2⟩:=Gc hl hw.1
  exact⟨e2,fun t ht=>hw.2 t (e1 t ht)⟩
 |newBox cs=>
  obtain⟨n,hn,_⟩:=Ab h
  rw[(G3 hn h).2];exact hw
 |setBox b off xs=>
  obtain⟨cs,_,h⟩:=Ab h
  obtain⟨_,h⟩:=Ae h
  simp at h;rw[<-h];exact hw
 |bx b cs m=>
  obtain⟨_,_,h⟩:=Ab h
  obtain⟨u,hu,h⟩:=Ab h
  simp at h;subst h
  obtain⟨b1,b2⟩:=Cs hu
  have b3:=Ed hu
  subst b1
  refine⟨List.nodup_append.2 ⟨(List.pairwise_reverse.2 (b3.imp fun h=>Ne.symm h)),hw.1,fun x hx y hy=>?_⟩,fun t ht=>?_⟩
  .intro e;subst e
   exact b2 x (by simpa using hx) (hw.2 x hy)
  .rcases List.mem_append.1 ht with h|h
   .exact List.mem_append.2 (.inl h)
   .exact List.mem_append.2 (.inr (hw.2 t h))
 |rs a m us=>
  obtain⟨l,hl,h⟩:=Ab h
  obtain⟨_,h⟩:=Ae h
  obtain⟨u,hu,h⟩:=Ab h
  simp at h;subst h
  obtain⟨b1,b2⟩:=Cs hu
  have b3:=Ed hu
  obtain⟨e1,e2⟩:=Gc hl hw.1
  subst b1
  refine⟨List.nodup_append.2 ⟨(List.pairwise_reverse.2 (b3.imp fun h=>Ne.symm h)),e2,fun x hx y hy=>?_⟩,fun t ht=>?_⟩
  .intro e;subst e
   exact b2 x (by simpa using hx) (hw.2 x (e1 x hy))
  .rcases List.mem_append.1 ht with h|h
   .exact List.mem_append.2 (.inl h)
   .exact List.mem_append.2 (.inr (hw.2 t (e1 t h)))
 |toks a m=>
  obtain⟨l,hl,h⟩:=Ab h
  obtain⟨u,hu,h⟩:=Ab h
  simp at h;subst h
  obtain⟨b1,b2⟩:=Cs hu
  have b3:=Ed hu
  obtain⟨e1,e2⟩:=Gc hl hw.1
  subst b1
  refine⟨List.nodup_append.2 ⟨(List.pairwise_reverse.2 (b3.imp fun h=>Ne.symm h)),e2,fun x hx y hy=>?_⟩,fun t ht=>?_⟩
  .intro e;subst e
   exact b2 x (by simpa using hx) (hw.2 x (e1 x hy))
  .rcases List.mem_append.1 ht with h|h
   .exact List.mem_append.2 (.inl h)
   .exact List.mem_append.2 (.inr (hw.2 t (e1 t h)))
theorem X7 {d:Option Nat} {ef:Ef} {s t s1:St} (hsim:ef.simple=true) (h:ef.app d s=some s1) (hs:Wf s) (ht:Wf t) (ha: ∀l,l∈A4 d ef->At l s t):
  ∃t1,ef.app d t=some t1/\(∀l,l∈A4 d ef->At l s1 t1)/\(∀l,l∉A4 d ef->At l t1 t/\At l s1 s):=by
 cases ef with
 |rs a m us=>cases hsim
 |fz t s=>cases hsim
 |bx b cs m=>
  obtain⟨c0,hc0,h⟩:=Ab h
  obtain⟨u1,hu1,h⟩:=Ab h
  simp at h;subst h
  obtain⟨b1,b2⟩:=Cs hu1
  have b3:=Ed hu1
  have hb:s.bx b=t.bx b:=ha (1,b) (by simp[A4])
  have hloc: ∀x,x∈m->(x∈s.live↔x∈t.live)/\(x∈s.used↔x∈t.used):=fun x hx=>ha (2,x) (by simp[A4];exact hx)
  obtain⟨u2,hu2⟩:=Ob (used:=t.used) b3 (fun x hx hm=>b2 x hx ((hloc x hx).2.2 hm))
  obtain⟨c1,_⟩:=Cs hu2
  subst b1 c1
  refine⟨_,by simp only[Ef.app,<-hb,hc0,hu2,ob];rfl,fun l hl=>?_,fun l hl=>?_⟩
  .simp only[A4,List.mem_cons,List.mem_map]at hl
   rcases hl with rfl|⟨x,hx,rfl⟩
   .show Aq b ((b,cs)::s.boxes)=Aq b ((b,cs)::t.boxes)
    simp[Aq]
   .obtain⟨q1,q2⟩:=hloc x hx
    exact⟨by simp only[List.mem_append,List.mem_reverse,q1],by simp only[List.mem_append,List.mem_reverse,q2]⟩
  .have hl':l≠(1,b)/\ ∀x,l=(2,x)->x∉m:=⟨fun e=>hl (by simp[A4,e]),fun x e hx=>hl (by simp[A4,e,hx])⟩
   have key: ∀u:St,At l {u with boxes:=(b,cs)::u.boxes,live:=m.reverse++u.live,used:=m.reverse++u.used} u:=fun u=>by
    obtain⟨k,i⟩:=l
    match k with
    |0=>rfl
    |1=>
     show Aq i ((b,cs)::u.boxes)=Aq i u.boxes
     have hne:Nat.beq i b=false:=by
      cases hb:Nat.beq i b with
      |false=>rfl
      |true=>exact(hl'.1 (by rw[Nat.eq_of_beq_eq_true hb])).elim
     simp[Aq,hne]
    |2=>
     have:=hl'.2 i rfl
     exact⟨by simp[this],by simp[this]⟩
    |k+3=>trivial
   exact⟨key t,key s⟩
 |none=>
  simp[Ef.app]at h;subst h
  exact⟨t,rfl,fun l hl=>(by cases hl),fun l _=>⟨At.refl _ _,At.refl _ _⟩⟩
 |newBox cs=>
  obtain⟨n,hn,_⟩:=Ab h
  subst hn
  obtain⟨h1,h2⟩:=G3 rfl h
  subst h2
  have hb:s.bx n=t.bx n:=ha (1,n) (by simp[A4])
  have hh:t.has n=false:=by unfold St.has at*;rw[<-hb];exact h1
  refine⟨{t with boxes:=(n,cs)::t.boxes},by simp[Ef.app,ob,hh],fun l hl=>?_,fun l hl=>?_⟩
  .simp[A4]at hl;subst hl
   show St.bx _ n=St.bx _ n
   rw[Dd,Dd];simp
  .have hl':l≠(1,n):=fun e=>hl (by simp[A4,e])
   have key: ∀u:St,At l {u with boxes:=(n,cs)::u.boxes} u:=fun u=>by
    obtain⟨k,i⟩:=l
    match k with
    |0=>rfl
    |1=>
     show St.bx _ i=St.bx _ i
     rw[Dd,if_neg (fun e=>hl' (by rw[e]))]
    |2=>exact⟨Iff.rfl,Iff.rfl⟩
    |k+3=>trivial
   exact⟨key t,key s⟩
 |setBox b off xs=>
  obtain⟨cs,hcs,h⟩:=Ab h
  obtain⟨hle,h⟩:=Ae h
  simp at h;subst h
  have hb:s.bx b=t.bx b:=ha (1,b) (by simp[A4])
  refine⟨{t with boxes:=(b,Ag cs off xs)::t.boxes},by simp[Ef.app,ob,<-hb,hcs,chk,hle],fun l hl=>?_,fun l hl=>?_⟩
  .simp[A4]at hl;subst hl
   show St.bx _ b=St.bx _ b
   rw[Dd,Dd];simp
  .have hl':l≠(1,b):=fun e=>hl (by simp[A4,e])
   have key: ∀u:St,At l {u with boxes:=(b,Ag cs off xs)::u.boxes} u:=fun u=>by
    obtain⟨k,i⟩:=l
    match k with
    |0=>rfl
    |1=>
     show St.bx _ i=St.bx _ i
     rw[Dd,if_neg (fun e=>hl' (by rw[e]))]
    |2=>exact⟨Iff.rfl,Iff.rfl⟩
    |k+3=>trivial
   exact⟨key t,key s⟩
 |toks a m=>
  obtain⟨l1,hl1,h⟩:=Ab h
  obtain⟨u1,hu1,h⟩:=Ab h
  simp at h;subst h
  obtain⟨e1,e2,e3⟩:=Hm hl1 hs.1
  obtain⟨b1,b2⟩:=Cs hu1
  have b3:=Ed hu1
  have hloc: ∀x,x∈a\/x∈m->(x∈s.live↔x∈t.live)/\(x∈s.used↔x∈t.used):=fun x hx=>ha (2,x) (by simp[A4];exact hx)
  obtain⟨l2,hl2⟩:=Q7 ht.1 e2 (fun x hx=>((hloc x (.inl hx)).1.1 (e3 x hx)))
  obtain⟨u2,hu2⟩:=Ob (used:=t.used) b3 (fun x hx hm=>b2 x hx ((hloc x (.inr hx)).2.2 hm))
  obtain⟨f1,_,_⟩:=Hm hl2 ht.1
  obtain⟨c1,_⟩:=Cs hu2
  subst b1 c1
  refine⟨_,by simp only[Ef.app,hl2,hu2,ob];rfl,fun l hl=>?_,fun l hl=>?_⟩
  .simp only[A4,List.mem_map]at hl
   obtain⟨x,hx,rfl⟩:=hl
   have hx':=List.mem_append.1 hx
   obtain⟨q1,q2⟩:=hloc x hx'
   refine⟨?_,?_⟩
   .simp only[List.mem_append,List.mem_reverse,e1,f1,q1]
   .simp only[List.mem_append,List.mem_reverse,q2]
  .have hl': ∀x,l=(2,x)->x∉a/\x∉m:=fun x e=>by
    subst e
    simp[A4]at hl
    exact hl
   obtain⟨k,i⟩:=l
   match k with
   |0=>exact⟨rfl,rfl⟩
   |1=>exact⟨rfl,rfl⟩
   |2=>
    obtain⟨q1,q2⟩:=hl' i rfl
    refine⟨⟨?_,?_⟩,⟨?_,?_⟩⟩
    .simp only[List.mem_append,List.mem_reverse,f1];simp[q1,q2]
    .simp only[List.mem_append,List.mem_reverse];simp[q2]
    .simp only[List.mem_append,List.mem_reverse,e1];simp[q1,q2]
    .simp only[List.mem_append,List.mem_reverse];simp[q2]
   |k+3=>exact⟨trivial,trivial⟩

theorem L4 {l1 l2:List Nat} (h: ∀t,t∈l1↔t∈l2) (us:List (Nat×Sg)) (x:Cl):Cq l1 us x=Cq l2 us x:=by
 obtain⟨sh,val,tok⟩:=x
 cases tok with
 |own t=>
  simp only[Cq]
  have:l1.contains t=l2.contains t:=by
   cases h1:l1.contains t with
   |true=>exact(List.contains_iff_mem.2 ((h t).1 (List.contains_iff_mem.1 h1))).symm
   |false=>
    cases h2:l2.contains t with
    |false=>rfl
    |true=>rw[List.contains_iff_mem.2 ((h t).2 (List.contains_iff_mem.1 h2))]at h1;cases h1
  rw[this]
 |_=>rfl
theorem V8 {l1 l2:List Nat} (h: ∀t,t∈l1↔t∈l2) (us:List (Nat×Sg)) (p:PV):Fx l1 us p=Fx l2 us p:=by
 have hk:Cq l1 us=Cq l2 us:=funext fun x=>L4 h us x
 cases p with
 |el p ro xs=>cases ro<;>simp only[Fx,hk]
 |_=>simp only[Fx,hk]
theorem O1 {l1 l2:List Nat} (h: ∀t,t∈l1↔t∈l2) (t:Nat) (s:Sg) (x:Cl):Cf l1 t s x=Cf l2 t s x:=by
 unfold Cf
 rw[L4 h [] x]
theorem Uy {l1 l2:List Nat} (h: ∀t,t∈l1↔t∈l2) (t:Nat) (s:Sg) (p:PV):Ej l1 t s p=Ej l2 t s p:=by
 have hk:Cf l1 t s=Cf l2 t s:=funext fun x=>O1 h t s x
 cases p with
 |el p ro xs=>cases ro<;>simp only[Ej,hk]
 |_=>simp only[Ej,hk]
theorem Np {d:Option Nat} {ef:Ef} {s t s1:St} (h:ef.app d s=some s1) (hs:Wf s) (ht:Wf t) (ha: ∀l,Cj (A4 d ef) l->At l s t):
  ∃t1,ef.app d t=some t1/\(∀l,Cj (A4 d ef) l->At l s1 t1)/\(∀l,¬Cj (A4 d ef) l->At l t1 t/\At l s1 s):=by
 cases hsim:ef.simple with
 |true=>
  have hno:(9,0)∉A4 d ef:=by
   cases ef with
   |rs a m us=>cases hsim
   |fz t s=>cases hsim
   |none=>simp[A4]
   |newBox cs=>cases d<;>simp[A4]
   |setBox b off xs=>simp[A4]
   |toks a m=>simp[A4]
   |bx b cs m=>simp[A4]
  have hT: ∀l,Cj (A4 d ef) l↔l∈A4 d ef:=fun l=>⟨fun q=>q.resolve_right hno,fun q=>.inl q⟩
  obtain⟨t1,k1,k2,k3⟩:=X7 hsim h hs ht (fun l hl=>ha l ((hT l).2 hl))
  exact⟨t1,k1,fun l hl=>k2 l ((hT l).1 hl),fun l hl=>k3 l (fun q=>hl ((hT l).2 q))⟩
 |false=>
  cases ef with
  |rs a m us=>
   have hall: ∀l,Cj (A4 d (.rs a m us)) l:=fun l=>.inr (by simp[A4])
   obtain⟨l1,hl1,h⟩:=Ab h
   obtain⟨hus,h⟩:=Ae h
   obtain⟨u1,hu1,h⟩:=Ab h
   simp at h;subst h
   obtain⟨e1,e2,e3⟩:=Hm hl1 hs.1
   obtain⟨b1,b2⟩:=Cs hu1
   have b3:=Ed hu1
   have hloc: ∀x,(x∈s.live↔x∈t.live)/\(x∈s.used↔x∈t.used):=fun x=>ha (2,x) (hall _)
   obtain⟨l2,hl2⟩:=Q7 ht.1 e2 (fun x hx=>((hloc x).1.1 (e3 x hx)))
   obtain⟨u2,hu2⟩:=Ob (used:=t.used) b3 (fun x hx hm=>b2 x hx ((hloc x).2.2 hm))
   obtain⟨f1,_,_⟩:=Hm hl2 ht.1
   obtain⟨c1,_⟩:=Cs hu2
   subst b1 c1
   have hll: ∀x,x∈l1↔x∈l2:=fun x=>by rw[e1,f1,(hloc x).1]
   have hus2:(us.all fun u=>l2.contains u.1)=true:=by
    rw[List.all_eq_true]at hus ⊢
    intro u hu
    have:=hus u hu
    exact List.contains_iff_mem.2 ((hll _).1 (List.contains_iff_mem.1 this))
   refine⟨_,by simp only[Ef.app,hl2,hu2,ob,hus2,chk];rfl,fun l _=>?_,fun l hl=>(hl (hall l)).elim⟩
   obtain⟨k,i⟩:=l
   match k with
   |0=>
    show look i (s.env.map fun p=>(p.1,Fx l1 us p.2))=look i (t.env.map fun p=>(p.1,Fx l2 us p.2))
    rw[E8 (Fx l1 us) rfl,E8 (Fx l2 us) rfl]
    have:look i s.env=look i t.env:=ha (0,i) (hall _)
    rw[this];exact V8 hll us _
   |1=>
    show Aq i (s.boxes.map fun b=>(b.1,b.2.map (Cq l1 us)))=Aq i (t.boxes.map fun b=>(b.1,b.2.map (Cq l2 us)))
    rw[D0 (fun cs=>cs.map (Cq l1 us)),D0 (fun cs=>cs.map (Cq l2 us))]
    have:Aq i s.boxes=Aq i t.boxes:=ha (1,i) (hall _)
    rw[this,show Cq l1 us=Cq l2 us from funext fun x=>L4 hll us x]
   |2=>exact⟨by simp only[List.mem_append,hll],by simp only[List.mem_append,(hloc i).2]⟩
   |k+3=>trivial
  |fz u sg=>
   have hall: ∀l,Cj (A4 d (.fz u sg)) l:=fun l=>.inr (by simp[A4])
   obtain⟨l1,hl1,h⟩:=Ab h
   simp at h;subst h
   obtain⟨e1,e2,e3⟩:=Hm hl1 hs.1
   have hloc: ∀x,(x∈s.live↔x∈t.live)/\(x∈s.used↔x∈t.used):=fun x=>ha (2,x) (hall _)
   obtain⟨l2,hl2⟩:=Q7 ht.1 e2 (fun x hx=>((hloc x).1.1 (e3 x hx)))
   obtain⟨f1,_,_⟩:=Hm hl2 ht.1
   have hll: ∀x,x∈l1↔x∈l2:=fun x=>by rw[e1,f1,(hloc x).1]
   refine⟨_,by simp only[Ef.app,hl2,ob];rfl,fun l _=>?_,fun l hl=>(hl (hall l)).elim⟩
   obtain⟨k,i⟩:=l
   match k with
   |0=>
    show look i (s.env.map fun p=>(p.1,Ej l1 u sg p.2))=look i (t.env.map fun p=>(p.1,Ej l2 u sg p.2))
    rw[E8 (Ej l1 u sg) rfl,E8 (Ej l2 u sg) rfl]
    have:look i s.env=look i t.env:=ha (0,i) (hall _)
    rw[this];exact Uy hll u sg _
   |1=>
    show Aq i (s.boxes.map fun b=>(b.1,b.2.map (Cf l1 u sg)))=Aq i (t.boxes.map fun b=>(b.1,b.2.map (Cf l2 u sg)))
    rw[D0 (fun cs=>cs.map (Cf l1 u sg)),D0 (fun cs=>cs.map (Cf l2 u sg))]
    have:Aq i s.boxes=Aq i t.boxes:=ha (1,i) (hall _)
    rw[this,show Cf l1 u sg=Cf l2 u sg from funext fun x=>O1 hll u sg x]
   |2=>exact⟨hll i,(hloc i).2⟩
   |k+3=>trivial
  |_=>cases hsim
theorem Ws {i:Nat} {a b:St} (h:At (0,i) a b):a.get i=b.get i:=h
theorem Q8 {st:St} {d:Option Nat} {p:PV} {l:Nat×Nat} (h: ∀i,d=some i->l≠(0,i)):At l (st.put d p) st:=by
 cases d with
 |none=>exact At.refl _ _
 |some i=>
  obtain⟨k,j⟩:=l
  match k with
  |0=>
   show(st.set i p).get j=st.get j
   rw[Ii,if_neg (fun e=>h i rfl (by rw[e]))]
  |1=>rfl
  |2=>exact⟨Iff.rfl,Iff.rfl⟩
  |k+3=>trivial
theorem R2 {a b:St} {d:Option Nat} {p:PV} {l:Nat×Nat} (h: ∀i,d=some i->l≠(0,i)) (hl:At l a b):At l (a.put d p) (b.put d p):=((Q8 h).trans hl).trans (Q8 h).symm
theorem Po {a b:St} {i:Nat} {p:PV}:At (0,i) (a.put (some i) p) (b.put (some i) p):=by
 show(a.set i p).get i=(b.set i p).get i
 rw[Ii,Ii];simp
theorem Ft {st:St} (h:Wf st) (d:Option Nat) (p:PV):Wf (st.put d p):=by cases d<;>exact h
def Ans (all:List Oper) (st:St) (o:Oper) (b:Bool):Prop:=
 match o.guard with
 |none=>b=true
 |some (j,want)=>∃oj d,all[j]? =some oj/\oj.dst=some d/\((∃c,st.get d= .v false [⟨.bool,c,.nil⟩]/\b=decide (c=want))\/(st.get d= .tup []/\b=false))
structure StepOk (g:Cfg) (all:List Oper) (np nt:Nat) (o:Oper) (s:Stp) (st st':St):Prop where
 hd: ∀i,o.dst=some i->np<=i/\i<nt
 ans:Ans all st o s.on
 run:s.on=true->Dz g st o s.pv s.ef/\s.rb=H5 g st o
 off:s.on=false->s.pv= .tup []/\s.ef= .none/\s.rb=[]
 app: ∃st1,s.ef.app o.dst st=some st1/\Eqv (st1.put o.dst s.pv) st'
 wf:Wf st'
theorem Abs {st:St} {d:Nat} {x:PV} (h:st.get d=x):Eqv (st.set d x) st:=by
 intro l
 obtain⟨k,j⟩:=l
 match k with
 |0=>
  show(st.set d x).get j=st.get j
  rw[Ii]
  by_cases hj:j=d
  .subst hj;rw[if_pos rfl,h]
  .rw[if_neg hj]
 |1=>rfl
 |2=>exact⟨Iff.rfl,Iff.rfl⟩
 |k+3=>trivial
theorem X8 {g:Cfg} {st st':St} {o:Oper} (hs: ∀s,s∈Fi o->st.get s=st'.get s):H5 g st o=H5 g st' o:=by
 unfold H5
 split
 .rename_i t x ho
  rw[Bi (st:=st) (st':=st') (fun s hs'=>hs s (by unfold Fi A3;rw[ho];simpa [Op.operands] using hs'))]
 .rename_i f as ts ho
  rw[L0 (st:=st) (st':=st') (fun s hs'=>hs s (by unfold Fi A3;rw[ho];simp[Op.operands,Call.operands,A3]at hs' ⊢;grind))]
 .rfl
theorem Dz.congr {g:Cfg} {st st':St} {o:Oper} {p:PV} {e:Ef} (h:Dz g st o p e) (hs: ∀s,s∈Fi o->st.get s=st'.get s) (hb: ∀b,b∈H5 g st o->st.bx b=st'.bx b):Dz g st' o p e:=by
 unfold Dz;rw[<-V7 _ hs hb];exact h
inductive RunT (g:Cfg) (all:List Oper) (np nt:Nat):List Oper->St->List Stp->St->Prop
 |nil (st:St):RunT g all np nt [] st [] st
 |cons {o:Oper} {r:List Oper} {s:Stp} {tr:List Stp} {st st1 st2:St} (h:StepOk g all np nt o s st st1) (t:RunT g all np nt r st1 tr st2):RunT g all np nt (o::r) st (s::tr) st2
theorem Hy {g:Cfg} {all:List Oper} {np nt:Nat} {ρ:Type} {r:ρ} {k:List Stp->St->Option ρ}: ∀ {l:List Oper} {st:St} {tr:List Stp},Wf st->Ji g all np nt l st tr k=some r->
  ∃tr' stn,RunT g all np nt l st tr' stn/\k (tr.reverse++tr') stn=some r/\Wf stn
 |[],st,tr,hw,h=>⟨[],st,.nil st,by rw[List.append_nil];exact h,hw⟩
 |o::l,st,tr,hw,h=>by
  simp only[Ji]at h
  obtain⟨hb,h⟩:=Ae h
  have hd: ∀i,o.dst=some i->np<=i/\i<nt:=fun i hi=>by
   rw[hi]at hb
   simp only[Bool.and_eq_true]at hb
   have hb':Nat.ble (i+1) nt=true:=hb.2
   exact⟨Nat.le_of_ble_eq_true hb.1,Nat.le_of_ble_eq_true hb'⟩
  cases hg:o.guard with
  |none=>
   rw[hg]at h
   obtain⟨p,e,hc,h⟩:=Dz.of h
   obtain⟨st1,ha,h⟩:=Ab h
   obtain⟨tr',stn,hr,hk,hwn⟩:=Hy (Ft (No ha hw) _ _) h
   refine⟨_,stn,.cons (s:=⟨true,p,e,H5 g st o⟩) ⟨hd,by simp[Ans,hg],fun _=>⟨hc,rfl⟩,fun h=>(by cases h),⟨st1,ha,fun l=>At.refl _ _⟩,Ft (No ha hw) _ _⟩ hr,by simpa using hk,hwn⟩
  |some jw=>
   obtain⟨j,want⟩:=jw
   rw[hg]at h
   simp only at h
   obtain⟨oj,hoj,h⟩:=Ab h
   obtain⟨d,hdj,h⟩:=Ab h
   cases hun:Rr (st.get d)with
   |true=>
    rw[hun]at h
    have hgd:=Wh hun
    obtain⟨tr',stn,hr,hk,hwn⟩:=Hy (Ft hw _ _) h
    exact⟨_,stn,.cons (s:=⟨false,.tup [],.none,[]⟩) ⟨hd,by simp only[Ans,hg];exact⟨oj,d,hoj,hdj,.inr ⟨hgd,by trivial⟩⟩,fun h=>(by cases h),fun _=>⟨rfl,rfl,rfl⟩,⟨st,rfl,fun l=>At.refl _ _⟩,Ft hw _ _⟩ hr,by simpa using hk,hwn⟩
   |false=>
   rw[hun]at h
   simp only[cond_false]at h
   split at h
   .rename_i b hgd
    have h:=N7 h
    have hE:=Abs hgd
    have hw1:Wf (st.set d (.v false [⟨.bool,b,.nil⟩])):=hw
    split at h
    .rename_i hbw
     obtain⟨p,e,hc,h⟩:=Dz.of h
     obtain⟨st1,ha,h⟩:=Ab h
     obtain⟨tr',stn,hr,hk,hwn⟩:=Hy (Ft (No ha hw1) _ _) h
     obtain⟨st1',ha',q1,q2⟩:=Np ha hw1 hw (fun l _=>hE l)
     have hc':Dz g st o p e:=hc.congr (fun s _=>hE (0,s)) (fun b _=>hE (1,b))
     refine⟨_,stn,.cons (s:=⟨true,p,e,H5 g (st.set d (.v false [⟨.bool,b,.nil⟩])) o⟩) ⟨hd,by simp only[Ans,hg];exact⟨oj,d,hoj,hdj,.inl ⟨b,hgd,by simp[hbw]⟩⟩,fun _=>⟨hc',X8 (fun s _=>hE (0,s))⟩,fun h=>(by cases h),⟨st1',ha',fun l=>?_⟩,Ft (No ha hw1) _ _⟩ hr,by simpa using hk,hwn⟩
     have hl:At l st1' st1:=by
      by_cases hl:Cj (A4 o.dst e) l
      .exact(q1 l hl).symm
      .exact((q2 l hl).1.trans (hE l).symm).trans (q2 l hl).2.symm
     by_cases hdl: ∃i,o.dst=some i/\l=(0,i)
     .obtain⟨i,hi,rfl⟩:=hdl
      rw[hi];exact Po
     .exact R2 (fun i hi e=>hdl ⟨i,hi,e⟩) hl
    .rename_i hbw
     obtain⟨tr',stn,hr,hk,hwn⟩:=Hy (Ft hw1 _ _) h
     refine⟨_,stn,.cons (s:=⟨false,.tup [],.none,[]⟩) ⟨hd,by simp only[Ans,hg];exact⟨oj,d,hoj,hdj,.inl ⟨b,hgd,by simp[hbw]⟩⟩,fun h=>(by cases h),fun _=>⟨rfl,rfl,rfl⟩,⟨st,rfl,fun l=>?_⟩,Ft hw1 _ _⟩ hr,by simpa using hk,hwn⟩
     by_cases hdl: ∃i,o.dst=some i/\l=(0,i)
     .obtain⟨i,hi,rfl⟩:=hdl
      rw[hi];exact Po
     .exact R2 (fun i hi e=>hdl ⟨i,hi,e⟩) (hE l).symm
   .cases h
theorem RunT.seq {g:Cfg} {all:List Oper} {np nt:Nat} {l:List Oper} {st stn:St} {tr:List Stp} (h:RunT g all np nt l st tr stn):tr.length=l.length/\ ∃S:Nat->St,S 0=st/\S l.length=stn/\ ∀i o s,l[i]? =some o->tr[i]? =some s->StepOk g all np nt o s (S i) (S (i+1)):=by
 induction h with
 |nil st=>exact⟨rfl,fun _=>st,rfl,rfl,fun i o s h=>by simp at h⟩
 | @cons o r s tr st st1 st2 hs _ ih=>
  obtain⟨h1,S,h2,h3,h4⟩:=ih
  refine⟨by simp[h1],fun n=>match n with|0=>st|n+1=>S n,rfl,h3,fun i o' s' ho hs'=>?_⟩
  cases i with
  |zero=>simp at ho hs';subst ho hs';simp only[h2];exact hs
  |succ i=>simp at ho hs';exact h4 i o' s' ho hs'
end
section

theorem Eqv.ext {g:Gh} {a b:St} (h:Eqv a b):Ext g a g b:=
 ⟨fun _ _ _ h=>h,fun _ _=>rfl,fun k hk=>by have:a.bx k=b.bx k:=h (1,k);unfold St.has at*;rw[<-this];exact hk,fun t ht=>((h (2,t)).2).1 ht,fun t ht _=>⟨((h (2,t)).1).2 ht,rfl,rfl,rfl,fun _ _ _=>rfl⟩⟩
theorem RM.eqv {cx:Cx} {w:World} {g:Gh} {a b:St} (h:RM cx g a w) (he:Eqv a b) (hn:b.live.Nodup):RM cx g b w:=by
 have hh: ∀k,b.has k=true->a.has k=true:=fun k hk=>by have:a.bx k=b.bx k:=he (1,k);unfold St.has at*;rw[this];exact hk
 have hl: ∀t,t∈b.live->t∈a.live:=fun t ht=>((he (2,t)).1).2 ht
 refine⟨h.moved,h.lies,h.g0,h.old,fun k cs hk=>?_,fun i j hi hj=>h.inj i j (hh i hi) (hh j hj),fun k o hk=>h.boxG k o (hh k hk),fun t ht=>?_,fun t u ht hu=>h.apart t u (hl t ht) (hl u hu),fun t k ht hk=>h.tokBox t k (hl t ht) (hh k hk),hn,h.new⟩
 .have:a.bx k=b.bx k:=he (1,k)
  obtain⟨vs,e,h1,h2,h3⟩:=h.box k cs (by rw[this];exact hk)
  exact⟨vs,e,h1,h2,h3.ext he.ext⟩
 .obtain⟨h1,h2⟩:=h.tok t (hl t ht)
  exact⟨((he (2,t)).2).1 h1,h2⟩
theorem Env.eqv {nt:Nat} {cx:Cx} {g:Gh} {a b:St} {x:Act} (h:Env nt cx g a x) (he:Eqv a b):Env nt cx g b x:=
 ⟨h.1,h.2.1,fun i=>by have:a.get i=b.get i:=he (0,i);rw[<-this];exact(h.2.2.1 i).ext he.ext,h.2.2.2⟩

def L5 (ops:List Oper) (D:Nat->Prop) (j:Nat):Prop:=∀o,ops[j]? =some o-> ∀e,e∈o.after.toList->Region.binds .any e=true->D e.on
def Kl (ops:List Oper) (D:Nat->Prop):Prop:=∀j,D j->L5 ops D j
theorem R3 {ρ:Type}: ∀(l acc:List Nat) (k:List Nat->ρ),Ug l acc k=k (Rs l acc)
 |[],_,_=>rfl
 |a::r,acc,k=>by
  unfold Ug Rs
  cases acc.any fun y=>Nat.beq a y
  .exact R3 r (a::acc) k
  .exact R3 r acc k
theorem Pp: ∀ {l acc:List Nat} {i:Nat},i∈Rs l acc->i∈l\/i∈acc
 |[],_,_,h=>.inr h
 |a::r,acc,i,h=>by
  unfold Rs at h
  cases e:acc.any fun y=>Nat.beq a y with
  |true=>
   rw[e]at h
   exact(Pp h).imp (List.mem_cons_of_mem _) id
  |false=>
   rw[e]at h
   rcases Pp h with q|q
   .exact .inl (List.mem_cons_of_mem _ q)
   .rcases List.mem_cons.1 q with rfl|q
    .exact .inl List.mem_cons_self
    .exact .inr q
theorem Wt (ops:List Oper) (D:Nat->Prop) (hD:Kl ops D): ∀(l:List Oper) (acc:List (List Nat)),(∀k,l[k]? =ops[acc.length+k]?)->
  (∀j,L5 ops D j-> ∀i,i∈acc.getD j []->D i)-> ∀j,L5 ops D j-> ∀i,i∈(Xs l acc).getD j []->D i
 |[],acc,_,h=>h
 |o::r,acc,hl,h=>by
  rw[show Xs (o::r) acc=_ from R3 _ _ _]
  refine Wt ops D hD r _ (fun k=>?_) (fun j hj i hi=>?_)
  .have:=hl (k+1)
   simp only[List.getElem?_cons_succ]at this
   rw[this,List.length_append,List.length_singleton]
   congr 1;omega
  .rw[List.getD_eq_getElem?_getD]at hi
   by_cases hjl:j<acc.length
   .rw[List.getElem?_append_left hjl]at hi
    exact h j hj i (by rw[List.getD_eq_getElem?_getD];exact hi)
   .rw[List.getElem?_append_right (by omega)]at hi
    by_cases hje:j=acc.length
    .subst hje
     simp only[Nat.sub_self,List.getElem?_cons_zero,Option.getD_some]at hi
     obtain⟨e,he,hi⟩:=List.mem_flatMap.1 ((Pp hi).resolve_right (by simp))
     obtain⟨he1,he2⟩:=List.mem_filter.1 he
     have ho:ops[acc.length]? =some o:=by have:=hl 0;simpa using this.symm
     have hon:=hj o ho e he1 he2
     rcases List.mem_cons.1 hi with q|q
     .rw[q];exact hon
     .exact h e.on (hD e.on hon) i q
    .rw[List.getElem?_eq_none (by simp;omega)]at hi
     simp at hi
theorem Hu {a b:List (Nat×Nat)} (h:To a b=false): ∀l,l∈a->l∉b:=by
 intro l ha hb
 unfold To at h
 rw[List.any_eq_false]at h
 have h1:=h l ha
 simp only[List.any_eq_true,not_exists,not_and]at h1
 have h2:=h1 l hb
 simp at h2
def Uz (all:List Oper) (o:Oper) (s:Stp) (o':Oper) (s':Stp):Prop:=
 (∀l,Cj (wrL o s) l-> ¬Cj (wrL o' s') l/\l∉rdL all o' s')/\ ∀l,l∈rdL all o s-> ¬Cj (wrL o' s') l
theorem S4 {all:List Oper} {an:List Nat} {oj:Oper} {sj:Stp}: ∀ {os:List Oper} {ss:List Stp} {k:Nat},Qv all an oj sj k os ss=true-> ∀i o s,os[i]? =some o->ss[i]? =some s->(k+i)∈an\/Uz all o s oj sj
 |[],_,k,h,i,o,s,ho,_=>by simp at ho
 |_::_,[],k,h,i,o,s,_,hs=>by simp at hs
 |o0::os,s0::ss,k,h,i,o,s,ho,hs=>by
  simp only[Qv,Bool.and_eq_true,Bool.or_eq_true,Bool.not_eq_true',Bool.or_eq_false_iff]at h
  cases i with
  |zero=>
   simp at ho hs;subst ho hs
   rcases h.1 with q|q
   .left;simpa using q
   .right
    have w1:(9,0)∉wrL o0 s0:=fun hm=>Hu q.1 _ hm (List.mem_append.2 (.inr (by simp[rdL])))
    have w2:(9,0)∉wrL oj sj:=fun hm=>Hu q.2 (9,0) (by simp[rdL]) hm
    refine⟨fun l hl=>?_,fun l hl ht=>?_⟩
    .have:=Hu q.1 l (hl.resolve_right w1)
     exact⟨fun hm=>this (List.mem_append.2 (.inl (hm.resolve_right w2))),fun hm=>this (List.mem_append.2 (.inr hm))⟩
    .exact Hu q.2 l hl (ht.resolve_right w2)
  |succ i=>
   simp at ho hs
   have:=S4 h.2 i o s ho hs
   rw[show k+(i+1)=k+1+i by omega];exact this
theorem L6 {all:List Oper} {tr:List Stp} {an:List (List Nat)}: ∀ {os:List Oper} {ss:List Stp} {k:Nat},N5 all tr an k os ss=true-> ∀j o s,os[j]? =some o->ss[j]? =some s->
  (∀e,e∈o.after.toList->Region.binds .any e=true->e.on<k+j)/\ ∀i o' s',i<k+j->all[i]? =some o'->tr[i]? =some s'->i∈an.getD (k+j) []\/Uz all o' s' o s
 |[],_,k,h,j,o,s,ho,_=>by simp at ho
 |_::_,[],k,h,j,o,s,_,hs=>by simp at hs
 |o0::os,s0::ss,k,h,j,o,s,ho,hs=>by
  simp only[N5,Bool.and_eq_true]at h
  cases j with
  |zero=>
   simp at ho hs;subst ho hs
   refine⟨fun e he hb=>?_,fun i o' s' hi h1 h2=>?_⟩
   .have:=(List.all_eq_true.1 h.1.1) e he
    rw[hb]at this
    have h2:Nat.ble (e.on+1) k=true:=this
    have:=Nat.le_of_ble_eq_true h2;omega
   .have:=S4 h.1.2 i o' s' (by rw[List.getElem?_take,if_pos (by omega)];exact h1) (by rw[List.getElem?_take,if_pos (by omega)];exact h2)
    simpa using this
  |succ j=>
   simp at ho hs
   have:=L6 h.2 j o s ho hs
   rw[show k+(j+1)=k+1+j by omega];exact this
end
section

theorem S5 {p q:Nat->Bool}: ∀ {l:List Nat},(∀x,x∈l->q x=true->p x=true)-> ∀i,i∈l->p i=true->q i=false->(l.filter q).length<(l.filter p).length
 |[],_,i,h,_,_=>by cases h
 |x::l,hpq,i,hi,hp,hq=>by
  have hle: ∀ {l:List Nat},(∀x,x∈l->q x=true->p x=true)->(l.filter q).length<=(l.filter p).length:=by
   intro l
   induction l with
   |nil=>intro _;simp
   |cons y l ih=>
    intro h
    have ih':=ih (fun x hx=>h x (by simp[hx]))
    cases hqy:q y with
    |true=>rw[List.filter_cons_of_pos hqy,List.filter_cons_of_pos (h y (by simp) hqy)];simp;exact ih'
    |false=>
     rw[List.filter_cons_of_neg (by simp[hqy])]
     cases hpy:p y with
     |true=>rw[List.filter_cons_of_pos hpy];simp;omega
     |false=>rw[List.filter_cons_of_neg (by simp[hpy])];exact ih'
  have hl:=hle (l:=l) (fun x hx=>hpq x (by simp[hx]))
  rcases List.mem_cons.1 hi with e|hi'
  .subst e
   rw[List.filter_cons_of_pos hp,List.filter_cons_of_neg (by simp[hq])];simp;omega
  .have ih:=S5 (fun x hx=>hpq x (by simp[hx])) i hi' hp hq
   cases hqx:q x with
   |true=>rw[List.filter_cons_of_pos hqx,List.filter_cons_of_pos (hpq x (by simp) hqx)];simp;exact ih
   |false=>
    rw[List.filter_cons_of_neg (by simp[hqx])]
    cases hpx:p x with
    |true=>rw[List.filter_cons_of_pos hpx];simp;omega
    |false=>rw[List.filter_cons_of_neg (by simp[hpx])];exact ih
theorem Pq {o:Oper} {s:Stp} {l:Nat×Nat} (h:Cj (A4 o.dst s.ef) l):Cj (wrL o s) l:=by
 rcases h with h|h
 .exact .inl (List.mem_append.2 (.inr h))
 .exact .inr (List.mem_append.2 (.inr h))
section
variable {P:Program} {g:Cfg} (hC:CfgOk P g) {cx:Cx} {np nt:Nat} {ops:Array Oper} {tr:List Stp} {S:Nat->St}
structure InOrder (g:Cfg) (np nt:Nat) (all:List Oper) (tr:List Stp) (S:Nat->St):Prop where
 len:tr.length=all.length
 step: ∀i o s,all[i]? =some o->tr[i]? =some s->StepOk g all np nt o s (S i) (S (i+1))
 wf:Wf (S 0)
 ind:Xt all tr=true
theorem InOrder.wfAt {all:List Oper} (h:InOrder g np nt all tr S): ∀i,i<=all.length->Wf (S i)
 |0,_=>h.wf
 |i+1,hi=>(h.step i _ _ (List.getElem?_eq_getElem (by omega)) (List.getElem?_eq_getElem (by rw[h.len];omega))).wf
theorem InOrder.frame {all:List Oper} (h:InOrder g np nt all tr S) {i:Nat} {o:Oper} {s:Stp} (ho:all[i]? =some o) (hs:tr[i]? =some s) {l:Nat×Nat} (hl: ¬Cj (wrL o s) l):At l (S i) (S (i+1)):=by
 have hst:=h.step i o s ho hs
 have hi:i<all.length:=(List.getElem?_eq_some_iff.1 ho).1
 obtain⟨st1,ha,he⟩:=hst.app
 have hw:=h.wfAt i (by omega)
 obtain⟨t1,ha',q1,q2⟩:=Np ha hw hw (fun l _=>At.refl _ _)
 have hle: ¬Cj (A4 o.dst s.ef) l:=fun hm=>hl (Pq hm)
 have hld: ∀d,o.dst=some d->l≠(0,d):=fun d hd e=>hl (.inl (List.mem_append.2 (.inl (by rw[hd];simp[e]))))
 exact((Q8 hld).trans (q2 l hle).2).symm.trans (he l)
theorem InOrder.between {all:List Oper} (h:InOrder g np nt all tr S) {l:Nat×Nat}: ∀(k a:Nat),a+k<=all.length->(∀j o s,a<=j->j<a+k->all[j]? =some o->tr[j]? =some s-> ¬Cj (wrL o s) l)->At l (S a) (S (a+k))
 |0,a,_,_=>At.refl _ _
 |k+1,a,hle,hno=>by
  have h1:=h.between k a (by omega) (fun j o s h1 h2=>hno j o s h1 (by omega))
  refine h1.trans ?_
  exact h.frame (List.getElem?_eq_getElem (by omega)) (List.getElem?_eq_getElem (by rw[h.len];omega)) (hno (a+k) _ _ (by omega) (by omega) (List.getElem?_eq_getElem (by omega)) (List.getElem?_eq_getElem (by rw[h.len];omega)))
theorem InOrder.ord {all:List Oper} (h:InOrder g np nt all tr S) {D:Nat->Prop} (hD:Kl all D) {i j:Nat} {oi oj:Oper} {si sj:Stp} (hij:i<j) (h1:all[i]? =some oi) (h2:tr[i]? =some si) (h3:all[j]? =some oj) (h4:tr[j]? =some sj)
  (hp:L5 all D j):D i\/Uz all oi si oj sj:=by
 have:=(L6 (k:=0) h.ind j oj sj h3 h4).2 i oi si (by omega) h1 h2
 rw[Nat.zero_add]at this
 rcases this with q|q
 .exact .inl (Wt all D hD all [] (fun k=>by simp) (fun j _ i hi=>by simp at hi) j hp i q)
 .exact .inr q
def Fu (all:List Oper) (tr:List Stp) (S:Nat->St) (D:Nat->Prop) (st:St):Prop:=
 ∀l,∃m,At l st (S m)/\m<=all.length/\(m=0\/ ∃j o s,m=j+1/\D j/\all[j]? =some o/\tr[j]? =some s/\Cj (wrL o s) l)/\ ∀j o s,D j->all[j]? =some o->tr[j]? =some s->Cj (wrL o s) l->j<m
theorem Fu.reads {all:List Oper} (h:InOrder g np nt all tr S) {D:Nat->Prop} (hD:Kl all D) {st:St} (hS:Fu all tr S D st) {i:Nat} {o:Oper} {s:Stp} (ho:all[i]? =some o) (hs:tr[i]? =some s) (hi: ¬D i) (hp:L5 all D i)
  {l:Nat×Nat} (hl:l∈rdL all o s\/Cj (wrL o s) l):At l st (S i):=by
 obtain⟨m,h1,h2,h3,h4⟩:=hS l
 have hil:i<all.length:=(List.getElem?_eq_some_iff.1 ho).1
 refine h1.trans ?_
 rcases Nat.le_total m i with hmi|hmi
 .have:=h.between (l:=l) (i-m) m (by omega) (fun j o' s' hj1 hj2 ho' hs' hw=>by
   rcases h.ord hD (show j<i by omega) ho' hs' ho hs hp with q|q
   .have:=h4 j o' s' q ho' hs' hw;omega
   .rcases hl with hl|hl
    .exact(q.1 l hw).2 hl
    .exact(q.1 l hw).1 hl)
  rwa [show m+(i-m)=i by omega]at this
 .rcases h3 with h3|⟨j,o',s',rfl,hDj,ho',hs',hw⟩
  .have:m=i:=by omega
   subst this;exact At.refl _ _
  .rcases Nat.lt_or_ge j i with hji|hji
   .have:j+1=i:=by omega
    rw[this];exact At.refl _ _
   .exfalso
    rcases Nat.eq_or_lt_of_le hji with e|hlt
    .exact hi (e▸hDj)
    .rcases h.ord hD hlt ho hs ho' hs' (hD j hDj)with q|q
     .exact hi q
     .rcases hl with hl|hl
      .exact q.2 l hl hw
      .exact(q.1 l hl).1 hw
theorem Fu.all {all:List Oper} (h:InOrder g np nt all tr S) {D:Nat->Prop} (hall: ∀j,j<all.length->D j) {st:St} (hS:Fu all tr S D st):Eqv st (S all.length):=by
 intro l
 obtain⟨m,h1,h2,_,h4⟩:=hS l
 have:=h.between (l:=l) (all.length-m) m (by omega) (fun j o s hj1 hj2 ho hs hw=>by
  have:=h4 j o s (hall j (by omega)) ho hs hw;omega)
 rw[show m+(all.length-m)=all.length by omega]at this
 exact h1.trans this
theorem Fu.next {all:List Oper} (h:InOrder g np nt all tr S) {D:Nat->Prop} (hD:Kl all D) {st:St} (hw:Wf st) (hS:Fu all tr S D st) {i:Nat} {o:Oper} {s:Stp} (ho:all[i]? =some o) (hs:tr[i]? =some s) (hi: ¬D i) (hp:L5 all D i):
  Ans all st o s.on/\(s.on=true->Dz g st o s.pv s.ef)/\ ∃t1,s.ef.app o.dst st=some t1/\Wf t1/\Fu all tr S (fun j=>D j\/j=i) (t1.put o.dst s.pv):=by
 have hil:i<all.length:=(List.getElem?_eq_some_iff.1 ho).1
 have hst:=h.step i o s ho hs
 have hrd: ∀l,l∈rdL all o s->At l st (S i):=fun l hl=>hS.reads h hD ho hs hi hp (.inl hl)
 have hwr: ∀l,Cj (wrL o s) l->At l st (S i):=fun l hl=>hS.reads h hD ho hs hi hp (.inr hl)
 have hslot: ∀x,x∈Fi o->(S i).get x=st.get x:=fun x hx=>(Ws (hrd (0,x) (by unfold rdL;simp[hx]))).symm
 refine⟨?_,fun hon=>?_,?_⟩
 .have ha:=hst.ans
  unfold Ans at ha ⊢
  cases hg:o.guard with
  |none=>rw[hg]at ha;exact ha
  |some jw=>
   rw[hg]at ha
   obtain⟨oj,d,a1,a2,a3⟩:=ha
   refine⟨oj,d,a1,a2,?_⟩
   have e:st.get d=(S i).get d:=Ws (hrd (0,d) (by unfold rdL Adj;rw[hg];simp only[a1,a2];simp))
   rw[e]
   exact a3
 .obtain⟨c1,c2⟩:=hst.run hon
  refine c1.congr hslot (fun b hb=>?_)
  rw[<-c2]at hb
  exact((hrd (1,b) (by unfold rdL;simp[hb])):st.bx b=(S i).bx b).symm
 .obtain⟨st1,ha,he⟩:=hst.app
  obtain⟨t1,ha',q1,q2⟩:=Np ha (h.wfAt i (by omega)) hw (fun l hl=>(hwr l (Pq hl)).symm)
  refine⟨t1,ha',No ha' hw,fun l=>?_⟩
  by_cases hlw:Cj (wrL o s) l
  .refine⟨i+1,?_,by omega,.inr ⟨i,o,s,rfl,.inr rfl,ho,hs,hlw⟩,fun j o' s' hj ho' hs' hw'=>?_⟩
   .refine At.trans ?_ (he l)
    by_cases hd: ∃d,o.dst=some d/\l=(0,d)
    .obtain⟨d,hd,rfl⟩:=hd
     rw[hd];exact Po
    .have hle:Cj (A4 o.dst s.ef) l:=by
      rcases hlw with hlw|hlw
      .rcases List.mem_append.1 hlw with q|q
       .simp only[List.mem_map,Option.mem_toList]at q
        obtain⟨d,hd',rfl⟩:=q
        exact(hd ⟨d,hd',rfl⟩).elim
       .exact .inl q
      .rcases List.mem_append.1 hlw with q|q
       .simp at q
       .exact .inr q
     exact R2 (fun d hd' e=>hd ⟨d,hd',e⟩) (q1 l hle).symm
   .rcases hj with hj|hj
    .rcases Nat.lt_or_ge j i with q|q
     .omega
     .exfalso
      rcases Nat.eq_or_lt_of_le q with e|hlt
      .exact hi (e▸hj)
      .rcases h.ord hD hlt ho hs ho' hs' (hD j hj)with r|r
       .exact hi r
       .exact(r.1 l hlw).1 hw'
    .omega
  .obtain⟨m,h1,h2,h3,h4⟩:=hS l
   have hle: ¬Cj (A4 o.dst s.ef) l:=fun hm=>hlw (Pq hm)
   have hld: ∀d,o.dst=some d->l≠(0,d):=fun d hd e=>hlw (.inl (List.mem_append.2 (.inl (by rw[hd];simp[e]))))
   refine⟨m,((Q8 hld).trans (q2 l hle).1).trans h1,h2,?_,fun j o' s' hj ho' hs' hw'=>?_⟩
   .rcases h3 with h3|⟨j,o',s',e1,e2,e3⟩
    .exact .inl h3
    .exact .inr ⟨j,o',s',e1,.inl e2,e3⟩
   .rcases hj with hj|hj
    .exact h4 j o' s' hj ho' hs' hw'
    .subst hj
     rw[ho]at ho';rw[hs]at hs'
     cases ho';cases hs'
     exact(hlw hw').elim
end
end
section

theorem Oc (g:Gh) (st:St) (i:Nat) (x:PV):Ext g st g (st.set i x):=⟨fun _ _ _ h=>h,fun _ _=>rfl,fun _ h=>h,fun _ h=>h,fun t h _=>⟨h,rfl,rfl,rfl,fun _ _ _=>rfl⟩⟩
theorem Ij {np nt:Nat} {cx:Cx} {g:Gh} {st:St} {a:Act} (hp:cx.pin.length<=np) (h:Env nt cx g st a) {d:Option Nat} (hd: ∀i,d=some i->np<=i/\i<nt) {x:PV} {v:Value} (hx:VR cx g st x v):Env nt cx g (st.put d x) (a.put d v):=by
 cases d with
 |none=>exact h
 |some i=>
  obtain⟨h1,h2,h3,h4⟩:=h
  have hi:=(hd i rfl).2
  have hip:=(hd i rfl).1
  have hoth: ∀j,j≠i->((a.put (some i) v).tmps).getD j undef=a.tmps.getD j undef:=fun j hj=>by
   simp only[Act.put,Array.getD_eq_getD_getElem?]
   rw[Array.getElem?_setIfInBounds_ne (Ne.symm hj)]
  refine⟨by simp[Act.put,h1],h2,fun j=>?_,fun j u hu=>?_⟩
  .show VR cx g (st.set i x) ((st.set i x).get j) _
   rw[Ii]
   by_cases hj:j=i
   .subst hj
    rw[if_pos rfl]
    have:((a.put (some j) v).tmps).getD j undef=v:=by simp[Act.put,Array.getD,h1,hi]
    rw[this]
    exact hx.ext (Oc g st j x)
   .rw[if_neg hj,hoth j hj]
    exact(h3 j).ext (Oc g st i x)
  .have hjl:j<cx.pin.length:=(List.getElem?_eq_some_iff.1 hu).1
   rw[hoth j (by omega)];exact h4 j u hu
theorem Nq {cx:Cx} {w:World} {g:Gh} {st:St} (h:RM cx g st w) (d:Option Nat) (x:PV):RM cx g (st.put d x) w:=by
 cases d with
 |none=>exact h
 |some i=>
  exact⟨h.moved,h.lies,h.g0,h.old,fun k cs hk=>let ⟨vs,e,h1,h2,h3⟩:=h.box k cs hk;⟨vs,e,h1,h2,h3.ext (Oc g st i x)⟩,h.inj,h.boxG,h.tok,h.apart,h.tokBox,h.nodup,h.new⟩
theorem Adu {nt:Nat} {cx:Cx} {g:Gh} {st:St} {a:Act} (h:Env nt cx g st a) {d:Nat} {b:Bool} {t:Tok} (hg:st.get d= .v false [⟨.bool,b,t⟩]):a.tmps[d]? =some (.bool b):=by
 have h3:=h.2.2.1 d
 rw[hg]at h3
 have e:a.tmps.getD d undef= .bool b:=h3.1.1
 simp only[Array.getD_eq_getD_getElem?]at e
 cases hq:a.tmps[d]? with
 |none=>rw[hq]at e;simp[undef]at e
 |some v=>rw[hq]at e;simp at e;rw[e]
theorem Pr {cx:Cx} {g:Gh} {st:St}:VR cx g st (.tup []) undef:=⟨[],rfl,trivial⟩
theorem Q9 {nt:Nat} {cx:Cx} {g:Gh} {st:St} {a:Act} (h:Env nt cx g st a) {d:Nat} (hg:st.get d= .tup []) {ops:Array Oper} {j:Nat} {oj:Oper} (hoj:ops[j]? =some oj) (hdj:oj.dst=some d):yielded ops a.tmps j=none:=by
 have h3:=h.2.2.1 d
 rw[hg]at h3
 obtain⟨vs,h4,h5⟩:=h3
 have e:vs=[]:=by cases vs with|nil=>rfl|cons _ _=>exact h5.elim
 subst e
 simp only[Array.getD_eq_getD_getElem?]at h4
 unfold yielded
 rw[hoj]
 simp only[Option.bind_some,hdj]
 cases hq:a.tmps[d]? with
 |none=>rfl
 |some v=>rw[hq]at h4;simp at h4;rw[h4]
def done (listed:Array Bool) (j:Nat):Prop:=listed.getD j false=true
def unl (n:Nat) (listed:Array Bool):List Nat:=(List.range n).filter fun i=> !listed.getD i true
section
variable {P:Program} {g:Cfg} (hC:CfgOk P g) {cx:Cx} {np nt:Nat} (hpin:cx.pin.length<=np) {ops:Array Oper} {tr:List Stp} {S:Nat->St} {Q:Exit->Act->World->Prop}
include hC hpin
theorem Abt (hI:InOrder g np nt ops.toList tr S) (hk: ∀gh a w,RM cx gh (S ops.toList.length) w->Env nt cx gh (S ops.toList.length) a->Q .normal a w):
  ∀(fuel:Nat) (listed:Array Bool) {st:St} {gh:Gh} {a:Act} {w:World},listed.size=ops.size->(unl ops.size listed).length<=fuel->Kl ops.toList (done listed)->Fu ops.toList tr S (done listed) st->Wf st->RM cx gh st w->Env nt cx gh st a->
   wpAny P .any ops Q fuel listed a w:=by
 have hn:ops.toList.length=ops.size:=by simp
 have fin: ∀(listed:Array Bool) {st:St} {gh:Gh} {a:Act} {w:World},(∀j,j<ops.size->done listed j)->Fu ops.toList tr S (done listed) st->RM cx gh st w->Env nt cx gh st a->Q .normal a w:=fun listed {st gh a w} hall hS hM hE=>by
  have he:=hS.all hI (fun j hj=>hall j (by omega))
  exact hk gh a w (hM.eqv he (hI.wfAt _ (Nat.le_refl _)).1) (hE.eqv he)
 have hmin: ∀(listed:Array Bool),listed.size=ops.size->Region.ready .any ops listed=[]-> ∀j,j<ops.size->done listed j:=fun listed hsz hr j=>by
  induction j using Nat.strongRecOn with
  |_ j ih=>
   intro hj
   by_cases hd:done listed j
   .exact hd
   .exfalso
    have hmem:j∈Region.ready .any ops listed:=by
     unfold Region.ready
     refine List.mem_filter.2 ⟨List.mem_range.2 hj,?_⟩
     have h1:listed.getD j true=false:=by
      unfold done at hd
      simp only[Array.getD_eq_getD_getElem?]at hd ⊢
      rw[Array.getElem?_eq_getElem (by omega)]at hd ⊢
      simpa using hd
     have ho:ops[j]? =some ops[j]:=Array.getElem?_eq_getElem hj
     have hol:ops.toList[j]? =some ops[j]:=by simp[hj]
     have hts:tr[j]? =some (tr[j]'(by rw[hI.len];omega)):=List.getElem?_eq_getElem _
     rw[ho]
     simp only[h1,Option.map_some,Option.getD_some,Bool.not_false,Bool.true_and]
     rw[Array.all_eq_true_iff_forall_mem]
     intro e he
     cases hb:Region.binds .any e with
     |false=>rfl
     |true=>
      have:=(L6 (k:=0) hI.ind j _ _ hol hts).1 e (by simpa using he) hb
      have hd:=ih e.on (by omega) (by omega)
      unfold done at hd
      simpa using hd
    rw[hr]at hmem;cases hmem
 intro fuel
 induction fuel with
 |zero=>
  intro listed st gh a w hsz hun hD hS hw hM hE
  have hun0:unl ops.size listed=[]:=List.eq_nil_of_length_eq_zero (by omega)
  have hall: ∀j,j<ops.size->done listed j:=fun j hj=>by
   by_cases hd:done listed j
   .exact hd
   .exfalso
    have:j∈unl ops.size listed:=List.mem_filter.2 ⟨List.mem_range.2 hj,by
     unfold done at hd
     simp only[Array.getD_eq_getD_getElem?]at hd ⊢
     rw[Array.getElem?_eq_getElem (by omega)]at hd ⊢
     simpa using hd⟩
    rw[hun0]at this;cases this
  refine⟨?_,fin listed hall hS hM hE⟩
  cases hr:Region.ready .any ops listed with
  |nil=>rfl
  |cons x xs=>
   exfalso
   have hx:x∈Region.ready .any ops listed:=by rw[hr];simp
   unfold Region.ready at hx
   have h1:=List.mem_filter.1 hx
   have:x∈unl ops.size listed:=List.mem_filter.2 ⟨h1.1,by have:=h1.2;simp only[Bool.and_eq_true]at this;exact this.1⟩
   rw[hun0]at this;cases this
 |succ fuel ih=>
  intro listed st gh a w hsz hun hD hS hw hM hE
  refine⟨fun hr=>fin listed (hmin listed hsz hr) hS hM hE,fun i hi=>?_⟩
  have h1:=List.mem_filter.1 (show i∈(List.range ops.size).filter _ from hi)
  have hil:i<ops.size:=List.mem_range.1 h1.1
  have h2:=h1.2
  simp only[Bool.and_eq_true]at h2
  have ho:ops[i]? =some ops[i]:=Array.getElem?_eq_getElem hil
  have hol:ops.toList[i]? =some ops[i]:=by simp[hil]
  have hts:tr[i]? =some (tr[i]'(by rw[hI.len];omega)):=List.getElem?_eq_getElem _
  generalize hs:tr[i]'(by rw[hI.len];omega)=s at hts
  generalize hoo:ops[i]=o at ho hol
  have hnd: ¬done listed i:=by
   unfold done
   have:=h2.1
   simp only[Array.getD_eq_getD_getElem?]at this ⊢
   rw[Array.getElem?_eq_getElem (by omega)]at this ⊢
   simpa using this
  have hp:L5 ops.toList (done listed) i:=fun o' ho' e he hb=>by
   rw[hol]at ho';cases ho'
   have h3:=h2.2
   rw[ho]at h3
   simp only[Option.map_some,Option.getD_some]at h3
   rw[Array.all_eq_true_iff_forall_mem]at h3
   have:=h3 e (by simpa using he)
   rw[hb]at this
   unfold done
   simpa using this
  obtain⟨hans,hrun,t1,ha,hwt,hS'⟩:=hS.next hI hD hw hol hts hnd hp
  have hdone: ∀j,done (listed.setIfInBounds i true) j↔(done listed j\/j=i):=fun j=>by
   unfold done
   simp only[Array.getD_eq_getD_getElem?]
   by_cases hj:j=i
   .subst hj
    rw[Array.getElem?_setIfInBounds_self_of_lt (by omega)]
    simp
   .rw[Array.getElem?_setIfInBounds_ne (Ne.symm hj)]
    simp[hj]
  have hD':Kl ops.toList (done (listed.setIfInBounds i true)):=fun j hj o' ho' e he hb=>by
   rw[hdone]at hj ⊢
   rcases hj with hj|hj
   .exact .inl (hD j hj o' ho' e he hb)
   .subst hj;exact .inl (hp o' ho' e he hb)
  have hS2:Fu ops.toList tr S (done (listed.setIfInBounds i true)) (t1.put o.dst s.pv):=by
   have:done (listed.setIfInBounds i true)=fun j=>done listed j\/j=i:=funext fun j=>propext (hdone j)
   rw[this];exact hS'
  have hun':(unl ops.size (listed.setIfInBounds i true)).length<=fuel:=by
   have hlt:=S5 (p:=fun j=> !listed.getD j true) (q:=fun j=> !(listed.setIfInBounds i true).getD j true) (l:=List.range ops.size) (fun x hx hq=>by
    simp only[Array.getD_eq_getD_getElem?]at hq ⊢
    by_cases hxi:x=i
    .subst hxi
     rw[Array.getElem?_setIfInBounds_self_of_lt (by omega)]at hq
     simp at hq
    .rw[Array.getElem?_setIfInBounds_ne (Ne.symm hxi)]at hq;exact hq) i h1.1 h2.1 (by
    simp only[Array.getD_eq_getD_getElem?]
    rw[Array.getElem?_setIfInBounds_self_of_lt (by omega)];rfl)
   unfold unl at hun ⊢
   omega
  have hst:=hI.step i o s hol hts
  have hwant:Region.wanted o (yielded ops a.tmps)=s.on:=by
   unfold Ans at hans
   unfold Region.wanted
   cases hg:o.guard with
   |none=>rw[hg]at hans;exact hans.symm
   |some jw=>
    obtain⟨j,want⟩:=jw
    rw[hg]at hans
    obtain⟨oj,d,a1,a2,hans⟩:=hans
    rcases hans with⟨c,a3,a4⟩|⟨a3,a4⟩
    .have hy:yielded ops a.tmps j=some c:=by
      unfold yielded
      have:ops[j]? =some oj:=by simpa using a1
      rw[this]
      simp[a2,Adu hE a3]
     simp only[hy,a4]
     cases c<;>cases want<;>rfl
    .have hy:yielded ops a.tmps j=none:=Q9 hE a3 (by simpa using a1) a2
     simp only[hy,a4]
     cases want<;>rfl
  unfold wpOp
  rw[ho]
  simp only[hwant]
  cases hon:s.on with
  |true=>
   simp only[if_true]
   left
   refine Pn hC hM hE (k:=fun p e=>some (p,e)) (r:=(s.pv,s.ef)) (fun pv ef hr=>?_) (fun gh' pv ef st' v w' hr hap m e hv=>?_) (hrun hon)
   .simp at hr;obtain⟨rfl,rfl⟩:=hr;exact⟨t1,ha⟩
   .simp at hr
    obtain⟨rfl,rfl⟩:=hr
    rw[ha]at hap;cases hap
    exact ih _ (by simp[hsz]) hun' hD' hS2 (Ft hwt _ _) (Nq m _ _) (Ij hpin e hst.hd hv)
  |false=>
   simp only[Bool.false_eq_true,if_false]
   obtain⟨o1,o2,o3⟩:=hst.off hon
   rw[o2]at ha
   simp[Ef.app]at ha
   subst ha
   rw[o1]at hS2
   exact ih _ (by simp[hsz]) hun' hD' hS2 (Ft hwt _ _) (Nq hM _ _) (Ij hpin hE hst.hd (x:=.tup []) (v:=undef) Pr)
theorem Acs {id:Nat} {st:St} {gh:Gh} {a:Act} {w:World} {ρ:Type} {r:ρ} {k:St->Option ρ} (hM:RM cx gh st w) (hE:Env nt cx gh st a) (hk: ∀gh st a w,RM cx gh st w->Env nt cx gh st a->k st=some r->Q .normal a w)
  (h:Ji g ops.toList np nt ops.toList st [] (fun tr st'=>chk (Xt ops.toList tr) (k st'))=some r):(Code.region id ops true).wp P Q a w:=by
 have hwf:Wf st:=⟨hM.nodup,fun t ht=>(hM.tok t ht).1⟩
 obtain⟨tr,stn,hrun,hkk,hwn⟩:=Hy hwf h
 obtain⟨hind,hkk⟩:=Ae hkk
 simp only[List.reverse_nil,List.nil_append]at hind
 obtain⟨hlen,S,S0,Sn,hstep⟩:=hrun.seq
 have hI:InOrder g np nt ops.toList tr S:=⟨hlen,hstep,by rw[S0];exact hwf,hind⟩
 refine wp_region_any hC.mix ?_
 have hG:As w {w with drawn:=w.drawn+1}:=(As.refl w).drew
 refine Abt hC hpin hI (fun gh a w m e=>hk gh _ a w m e (by rw[Sn];exact hkk)) ops.size _ (st:=st) (by simp) ?_ ?_ ?_ hwf (hM.world hG) hE
 .unfold unl
  exact Nat.le_trans (List.length_filter_le _ _) (by simp)
 .intro j hj
  unfold done at hj
  simp only[Array.getD_eq_getD_getElem?,Array.getElem?_replicate]at hj
  split at hj<;>simp at hj
 .intro l
  refine⟨0,by rw[S0];exact At.refl _ _,by omega,.inl rfl,fun j o s hj=>?_⟩
  unfold done at hj
  simp only[Array.getD_eq_getD_getElem?,Array.getElem?_replicate]at hj
  split at hj<;>simp at hj
end
end
section

theorem R4 {nt:Nat} {cx:Cx} {g:Gh} {st:St} {a:Act} (h:Env nt cx g st a) {d:Nat} {b:Bool} {t:Tok} (hg:st.get d= .v false [⟨.bool,b,t⟩]):a.tmps[d]? =some (.bool b)/\a.tmps.getD d undef= .bool b:=by
 have h3:=h.2.2.1 d
 rw[hg]at h3
 have e:a.tmps.getD d undef= .bool b:=h3.1.1
 refine⟨?_,e⟩
 simp only[Array.getD_eq_getD_getElem?]at e
 cases hq:a.tmps[d]? with
 |none=>rw[hq]at e;simp[undef]at e
 |some v=>rw[hq]at e;simp at e;rw[e]
theorem Env.known {nt:Nat} {cx:Cx} {g:Gh} {st:St} {a:Act} (h:Env nt cx g st a) {d:Nat} {b:Bool} {t:Tok} (hg:st.get d= .v false [⟨.bool,b,t⟩]):Env nt cx g (st.set d (.v false [⟨.bool,b,.nil⟩])) a:=by
 refine⟨h.1,h.2.1,fun j=>?_,h.2.2.2⟩
 rw[Ii]
 by_cases hj:j=d
 .subst hj
  rw[if_pos rfl,(R4 h hg).2]
  exact(Ea b).cr
 .rw[if_neg hj];exact(h.2.2.1 j).ext (Oc g st d _)
section
variable {P:Program} {g:Cfg} (hC:CfgOk P g) {cx:Cx} {np nt:Nat} (hpin:cx.pin.length<=np) {ρ:Type} {r:ρ}
include hC hpin
theorem Km {ops:Array Oper} {Q:Exit->Act->World->Prop} {k:St->Option ρ} (hk: ∀gh st a w,RM cx gh st w->Env nt cx gh st a->k st=some r->Q .normal a w):
  ∀ {l:List Oper} {gh:Gh} {st:St} {a:Act} {w:World},RM cx gh st w->Env nt cx gh st a->Pd g ops.toList np nt l st k=some r->wpList P ops Q l a w
 |[],gh,st,a,w,hM,hE,h=>hk gh st a w hM hE h
 |o::l,gh,st,a,w,hM,hE,h=>by
  simp only[Pd]at h
  obtain⟨hb,h⟩:=Ae h
  have hd: ∀i,o.dst=some i->np<=i/\i<nt:=fun i hi=>by
   rw[hi]at hb
   simp only[Bool.and_eq_true]at hb
   have hb':Nat.ble (i+1) nt=true:=hb.2
   exact⟨Nat.le_of_ble_eq_true hb.1,Nat.le_of_ble_eq_true hb'⟩
  simp only[wpList]
  cases hg:o.guard with
  |none=>
   rw[hg]at h
   have hw:Region.wanted o (yielded ops a.tmps)=true:=by simp[Region.wanted,hg]
   rw[if_pos hw]
   refine .inl (Pn hC hM hE (fun pv ef hr=>let ⟨st',h1,_⟩:=Ab hr;⟨st',h1⟩) (fun gh' pv ef st' v w' hr ha m e hv=>?_) h)
   obtain⟨st2,h1,hr⟩:=Ab hr
   rw[ha]at h1;cases h1
   exact Km hk (Nq m _ _) (Ij hpin e hd hv) hr
  |some jw=>
   obtain⟨j,want⟩:=jw
   rw[hg]at h
   simp only at h
   obtain⟨oj,hoj,h⟩:=Ab h
   obtain⟨d,hdj,h⟩:=Ab h
   cases hun:Rr (st.get d)with
   |true=>
    rw[hun]at h
    have hy:yielded ops a.tmps j=none:=Q9 hE (Wh hun) (by simpa using hoj) hdj
    have hw:Region.wanted o (yielded ops a.tmps)=false:=by simp[Region.wanted,hg,hy]
    rw[if_neg (by simp[hw])]
    exact Km hk (Nq hM _ _) (Ij hpin hE hd (x:=.tup []) (v:=undef) Pr) h
   |false=>
   rw[hun]at h
   simp only[cond_false]at h
   split at h
   .rename_i b hgd
    have h:=N7 h
    have hy:yielded ops a.tmps j=some b:=by
     unfold yielded
     have:ops[j]? =some oj:=by simpa using hoj
     rw[this]
     simp[hdj,(R4 hE hgd).1]
    have M1:RM cx gh (st.set d (.v false [⟨.bool,b,.nil⟩])) w:=Nq hM (some d) _
    have E1:=hE.known hgd
    split at h
    .rename_i hbw
     have hw:Region.wanted o (yielded ops a.tmps)=true:=by simp[Region.wanted,hg,hy,hbw]
     rw[if_pos hw]
     refine .inl (Pn hC M1 E1 (fun pv ef hr=>let ⟨st',h1,_⟩:=Ab hr;⟨st',h1⟩) (fun gh' pv ef st' v w' hr ha m e hv=>?_) h)
     obtain⟨st2,h1,hr⟩:=Ab hr
     rw[ha]at h1;cases h1
     exact Km hk (Nq m _ _) (Ij hpin e hd hv) hr
    .rename_i hbw
     have hw:Region.wanted o (yielded ops a.tmps)=false:=by simp[Region.wanted,hg,hy,hbw]
     rw[if_neg (by simp[hw])]
     exact Km hk (Nq M1 _ _) (Ij hpin E1 hd (x:=.tup []) (v:=undef) Pr) h
   .cases h
def Kn (P:Program) (cx:Cx) (nt:Nat) (Λ:Hq) (body:Code):Prop:=
 ∀st e st' gh a w,(Λ (Et body) st).val=some (e,st')->RM cx gh st w->Env nt cx gh st a->
  (Code.loop body).wp P (fun ex a' w'=>∃gh',RM cx gh' st' w'/\Env nt cx gh' st' a'/\ex=e.out) a w
def B6:Code->List Code
 | .seq a b=>B6 a++B6 b
 | .cond _ a b=>B6 a++B6 b
 | .block _ a=>B6 a
 | .loop a=>[a]
 |_=>[]
theorem I9 {Λ:Hq}: ∀ {c:Code} {k:Ex->St->Option ρ} {gh:Gh} {st:St} {a:Act} {w:World} {Q:Exit->Act->World->Prop},RM cx gh st w->Env nt cx gh st a->pex g np nt Λ c st k=some r->(∀b,b∈B6 c->Kn P cx nt Λ b)->
  (∀e gh' st' a' w',RM cx gh' st' w'->Env nt cx gh' st' a'->k e st'=some r->Q e.out a' w')->c.wp P Q a w:=by
 intro c
 induction c with
 |skip=>intro k gh st a w Q hM hE h hL hk;exact wp_skip (hk .normal gh st a w hM hE h)
 |region id ops draw=>
  intro k gh st a w Q hM hE h hL hk
  cases draw with
  |true=>
   simp only[pex]at h
   exact Acs hC hpin hM hE (fun gh st a w m e hr=>hk .normal gh st a w m e hr) h
  |false=>
   simp only[pex]at h
   refine wp_region ?_
   have he:=wpOps_eq_wpList (P:=P) (ops:=ops) (Q:=Q) ops.toList 0 (fun j=>by simp)
   rw[List.range_eq_range']
   simp only[Array.length_toList]at he
   rw[he]
   exact Km hC hpin (fun gh st a w m e hr=>hk .normal gh st a w m e hr) hM hE h
 |seq x y ihx ihy=>
  intro k gh st a w Q hM hE h hL hk
  simp only[pex]at h
  refine wp_seq (ihx hM hE h (fun b hb=>hL b (by simp[B6,hb])) (fun e gh' st' a' w' m en hr=>?_))
  cases e with
  |normal=>exact ihy m en hr (fun b hb=>hL b (by simp[B6,hb])) hk
  |exit i=>exact hk (.exit i) gh' st' a' w' m en hr
  |ret=>exact hk .ret gh' st' a' w' m en hr
 |cond c x y ihx ihy=>
  intro k gh st a w Q hM hE h hL hk
  simp only[pex]at h
  split at h
  .rename_i d
   split at h
   .rename_i t hgd
    have h:=N7 h
    have M1:RM cx gh (st.set d (.v false [⟨.bool,t,.nil⟩])) w:=Nq hM (some d) _
    have E1:=hE.known hgd
    refine wp_cond (t:=t) (R4 hE hgd).2 ?_
    cases t with
    |true=>exact ihx M1 E1 h (fun b hb=>hL b (by simp[B6,hb])) hk
    |false=>exact ihy M1 E1 h (fun b hb=>hL b (by simp[B6,hb])) hk
   .cases h
  .cases h
 |block id x ih=>
  intro k gh st a w Q hM hE h hL hk
  simp only[pex]at h
  refine wp_block (ih hM hE h hL (fun e gh' st' a' w' m en hr=>?_))
  cases e with
  |normal=>exact hk .normal gh' st' a' w' m en hr
  |ret=>exact hk .ret gh' st' a' w' m en hr
  |exit j=>
   simp only at hr
   split at hr
   .rename_i hj;subst hj
    simp only[Ex.out,Exit.inBlock,if_true]
    exact hk .normal gh' st' a' w' m en hr
   .rename_i hj
    simp only[Ex.out,Exit.inBlock,hj,if_false]
    exact hk (.exit j) gh' st' a' w' m en hr
 |loop x ih=>
  intro k gh st a w Q hM hE h hL hk
  simp only[pex]at h
  obtain⟨⟨e,st'⟩,hΛ,h⟩:=Tree.run_some h
  refine wp_mono (hL x (by simp[B6]) st e st' gh a w hΛ hM hE) (fun ex a' w' hq=>?_)
  obtain⟨gh',m,en,rfl⟩:=hq
  exact hk e gh' st' a' w' m en h
 |exit i=>intro k gh st a w Q hM hE h hL hk;exact wp_exit (hk (.exit i) gh st a w hM hE h)
 |ret=>intro k gh st a w Q hM hE h hL hk;exact wp_ret (hk .ret gh st a w hM hE h)
 |scope x ih=>intro k gh st a w Q hM hE h;simp[pex]at h
 |label l=>intro k gh st a w Q hM hE h;simp[pex]at h
 |goto l=>intro k gh st a w Q hM hE h;simp[pex]at h
 |refuse s=>intro k gh st a w Q hM hE h;simp[pex]at h
 |rangeFunc f p x y ihx ihy=>intro k gh st a w Q hM hE h;simp[pex]at h
end
end
section

theorem OVs.sub: ∀ {xs:List Sg} {vs:List Value} {f g:Aa},OVs f xs vs->f.sub g->OVs g xs vs
 |[],[],_,_,_,_=>trivial
 |x::xs,v::vs,_,_,⟨p,q,h1,h2,h3⟩,hs=>⟨p,q,h1.sub hs,h2,h3⟩
 |[],_::_,_,_,h,_=>h.elim
 |_::_,[],_,_,h,_=>h.elim
theorem OVv.sub {r:RV} {v:Value} {f g:Aa} (h:OVv f r v) (hs:f.sub g):OVv g r v:=by
 obtain⟨a,xs⟩:=r
 cases a with
 |true=>obtain⟨vs,e,h⟩:=h;exact⟨vs,e,OVs.sub h hs⟩
 |false=>exact OVs.sub (xs:=xs) (vs:=[v]) h hs
theorem OCs.strip: ∀ {xs:List Cl} {vs:List Value} {f:Aa},OCs f xs vs->OVs f (xs.map fun c=>⟨c.sh,c.val⟩) vs
 |[],[],_,_=>trivial
 |x::xs,v::vs,_,⟨p,q,h1,h2,h3⟩=>⟨p,q,h1,h2,h3.strip⟩
 |[],_::_,_,h=>h.elim
 |_::_,[],_,h=>h.elim
theorem Ak.at: ∀ {cs:List Sh} {h:Aa} {d:dens cs} {c:List Value} {j:Nat} {sg:Sg},Ak h cs d c->Bo cs d j=some sg-> ∃u g,c[j]? =some u/\g.sub h/\Af g sg.sh sg.val u
 |[],h,d,c,j,sg,_,hj=>by simp[Bo]at hj
 |s::r,h,d,c,j,sg,ho,hj=>by
  simp only[Ak]at ho
  obtain⟨v,t,g,h',rfl,hp,h1,h2⟩:=ho
  cases j with
  |zero=>simp[Bo]at hj;subst hj;exact⟨v,g,rfl,hp.2 g (by simp),h1⟩
  |succ j=>simp only[Bo]at hj;obtain⟨u,g',e,q,ho⟩:=Ak.at h2 hj;exact⟨u,g',by simpa using e,Aa.sub_trans q (hp.2 h' (by simp)),ho⟩
theorem Acu {F:Aa} {e:Nat} {cs:List Sh} {l:List (dens cs)} {v:Value} {i:Nat} {d:dens cs} {j:Nat} {sg:Sg} (h:Af F (.sl e cs) l v) (hd:l[i]? =some d) (hc:Bo cs d j=some sg) {b n cap:Nat} (hv:v= .slice (some ⟨b,0,none⟩) n cap) {u:Value} (hu:F.cell b (i*cs.length+j)=some u):Af F sg.sh sg.val u:=by
 simp only[Af]at h
 obtain⟨css,rw_,hs,r1,r2,r3⟩:=h
 have hlt:i<l.length:=(List.getElem?_eq_some_iff.1 hd).1
 have hih:i<hs.length:=by rw[r3.2.1];exact hlt
 have hic:i<css.length:=by rw[r3.1];exact hlt
 obtain⟨hlen,hown⟩:=r3.2.2 i _ _ d (List.getElem?_eq_getElem hih) (List.getElem?_eq_getElem hic) hd
 obtain⟨u',g,e1,q1,q2⟩:=Ak.at hown hc
 have hj:j<cs.length:=by have:=(List.getElem?_eq_some_iff.1 e1).1;omega
 obtain⟨hl1,⟨⟨a',hE'⟩,hz'⟩|⟨b',cap',cur,hE',hg',hnc,hcm,hsz,htk'⟩⟩:=r1
 .rw[hz']at hlt;omega
 .rw[hv]at hE'
  cases hE'
  have hFr:F b=some (.cells cur e (0,0)):=r2.2 rw_ (by simp) b _ hg'
  have hflat:css.flatten[i*cs.length+j]? =some u':=by
   rw[Bz r3.len (List.getElem?_eq_getElem hic) hj];exact e1
  rw[<-htk',List.getElem?_take]at hflat
  split at hflat
  .unfold Aa.cell at hu
   rw[hFr]at hu
   have h1:cur[i*cs.length+j]? =some u':=by simpa using hflat
   have h2:cur[i*cs.length+j]? =some u:=by simpa using hu
   rw[h1]at h2
   cases h2
   exact Af.sub _ _ _ _ _ q2 (Aa.sub_trans q1 (r2.2 _ (by simp[List.getElem_mem])))
  .cases hflat
theorem Acv {cx:Cx} {g:Gh} {st:St} {x:Cl} {v:Value} (h:CR cx g st x v):CR cx g st (Xu x) v:=by
 obtain⟨sh,val,tok⟩:=x
 cases tok with
 |elt t e cs l i d j=>
  obtain⟨h1,h2,h3⟩:=h
  refine⟨h1,h2,fun ht=>?_⟩
  obtain⟨⟨q1,q2,q3,q4⟩,hc,b,n,cap,hv,hu⟩:=h3 ht
  exact Acu (sg:=⟨sh,val⟩) q1 q4 hc hv hu
 |_=>exact h
theorem Ps {cx:Cx} {g:Gh} {st:St}: ∀ {xs:List Cl} {vs:List Value},CRs cx g st xs vs->CRs cx g st (xs.map Xu) vs
 |[],[],_=>trivial
 |x::xs,v::vs,h=>⟨Acv h.1,Ps h.2⟩
 |[],_::_,h=>h.elim
 |_::_,[],h=>h.elim
theorem S6 (xs:List Cl):((xs.map Xu).map fun c=>(⟨c.sh,c.val⟩:Sg))=xs.map fun c=>⟨c.sh,c.val⟩:=by
 rw[List.map_map]
 apply List.map_congr_left
 rintro⟨sh,val,tok⟩ _
 cases tok<;>rfl
theorem Ra {cx:Cx} {w:World} {gh:Gh} {st:St} (hM:RM cx gh st w): ∀ {rs:List (Bool×List Cl)} {vs:List Value} {live live' e:List Nat},(∀t,t∈live->t∈st.live)->live.Nodup->VRt cx gh st rs vs->Dx rs=some e->eat live e=some live'->
  ∃f,OVt f (rs.map strip) vs/\(∀t,t∈live'->t∈live)/\live'.Nodup/\ ∀b o,f b=some o-> ∃t,t∈live/\t∉live'/\gh.F t b=some o
 |[],[],live,live',e,hsub,hnd,_,h,he=>by
  simp[Dx]at h;subst h
  simp[eat]at he;subst he
  exact⟨Aa.emp,trivial,fun _ h=>h,hnd,fun b o hb=>by cases hb⟩
 |(a,xs)::rs,v::vs,live,live',e,hsub,hnd,hc,h,he=>by
  simp only[Dx]at h
  obtain⟨e1,h1,h⟩:=Ab h
  obtain⟨e2,h2,h⟩:=Ab h
  simp at h;subst h
  obtain⟨l1,he1,he2⟩:=Hi he
  have hgive: ∃f,OVv f (strip (a,xs)) v/\(∀t,t∈l1->t∈live)/\l1.Nodup/\ ∀b o,f b=some o-> ∃t,t∈live/\t∉l1/\gh.F t b=some o:=by
   cases a with
   |true=>
    obtain⟨us,e,hcs⟩:=hc.1
    obtain⟨f,o1,s1,n1,u1⟩:=Gd hM hsub hnd (Ps hcs) h1 he1
    exact⟨f,⟨us,e,by have:=o1.strip;rw[S6]at this;exact this⟩,s1,n1,u1⟩
   |false=>
    obtain⟨f,o1,s1,n1,u1⟩:=Gd hM hsub hnd (Ps (show CRs cx gh st xs [v]from hc.1)) h1 he1
    exact⟨f,by have:=o1.strip;rw[S6]at this;exact this,s1,n1,u1⟩
  obtain⟨f1,o1,s1,n1,u1⟩:=hgive
  obtain⟨f2,o2,s2,n2,u2⟩:=Ra hM (fun t ht=>hsub t (s1 t ht)) n1 hc.2 h2 he2
  have hap:f1.apart f2:=fun b=>by
   cases e1:f1 b with
   |none=>exact .inl rfl
   |some o=>
    right
    cases e2:f2 b with
    |none=>rfl
    |some o'=>
     obtain⟨t,ht,ht',hF⟩:=u1 b o e1
     obtain⟨t2,hu,hu',hF'⟩:=u2 b o' e2
     have hne:t≠t2:=fun e=>ht' (e▸hu)
     rcases hM.apart t t2 (hsub t ht) (hsub t2 (s1 t2 hu)) hne b with h|h
     .rw[h]at hF;cases hF
     .rw[h]at hF';cases hF'
  refine⟨f1.join f2,⟨f1,f2,Bm.two hap,o1,o2⟩,fun t ht=>s1 t (s2 t ht),n2,fun b o hb=>?_⟩
  cases e1:f1 b with
  |some o'=>
   simp[Aa.join,e1]at hb;subst hb
   obtain⟨t,ht,ht',hF⟩:=u1 b _ e1
   exact⟨t,ht,fun hm=>ht' (s2 t hm),hF⟩
  |none=>
   simp[Aa.join,e1]at hb
   obtain⟨t,ht,ht',hF⟩:=u2 b _ hb
   exact⟨t,s1 t ht,ht',hF⟩
 |[],_::_,_,_,_,_,_,hc,_,_=>hc.elim
 |_::_,[],_,_,_,_,_,hc,_,_=>hc.elim
def Ko (tmps:Array Value):ResultVar->Sem Value
 | .tmp t=>pure (tmps.getD t undef)
 | .cell a t=>do loadVar t (<-asAddr (tmps.getD a undef))
theorem X9 (fn:Func) (tmps:Array Value):results fn tmps=(do
  let vs <-fn.results.mapM (Ko tmps)
  pure (if h:vs.size=1 then vs[0]else .tuple vs)):=rfl
theorem Hz {P:Program} {g:Cfg} (hC:CfgOk P g) {cx:Cx} {w:World} {gh:Gh} {st:St} {a:Act} {nt:Nat} (hM:RM cx gh st w) (hE:Env nt cx gh st a): ∀ {rs:List ResultVar} {l:List (Bool×List Cl)},C7 g st rs=some l->
  ∃vs:List Value,(rs.mapM (Ko a.tmps)).run P w= .ok vs w/\VRt cx gh st l vs
 |[],l,h=>by simp[C7]at h;subst h;exact⟨[],by simp,trivial⟩
 | .tmp t::rs,l,h=>by
  simp only[C7]at h
  split at h
  .rename_i ag xs hg
   obtain⟨l',hl',h⟩:=Ab h
   simp at h;subst h
   obtain⟨vs,h1,h2⟩:=Hz hC hM hE hl'
   have hv:=hE.2.2.1 t
   rw[hg]at hv
   exact⟨a.tmps.getD t undef::vs,by simp[List.mapM_cons,Sem.run_bind,h1,Ko],hv,h2⟩
  .cases h
 | .cell c t::rs,l,h=>by
  simp only[C7]at h
  obtain⟨T,hT,h⟩:=Ab h
  split at h
  .rename_i b off hg
   obtain⟨cs,hcs,h⟩:=Ab h
   obtain⟨hb,h⟩:=Ae h
   obtain⟨l',hl',h⟩:=Ab h
   simp at h;subst h
   have hlen:=Nat.eq_of_beq_eq_true hb
   obtain⟨vs,h1,h2⟩:=Hz hC hM hE hl'
   have hv:=hE.2.2.1 c
   rw[hg]at hv
   obtain⟨us,e,g1,g2,g3⟩:=hM.box b cs hcs
   have hcr:=(g3.drop off).take T.shs.length
   obtain⟨v,k1,k2,k3⟩:=Ui (hC.ty t T hT) (w:=w) (b:=gh.B b) (o:=off) (So g1) (by rw[<-hcr.len];exact hlen)
   refine⟨v::vs,?_,VRv.mk hcr k2 k3,h2⟩
   simp[List.mapM_cons,Sem.run_bind,hv.2,asAddr,k1,h1,Ko]
  .cases h

theorem Za {cx:Cx} {g:Gh} {st:St} (hs:cx.G0.sub g.G): ∀ {xs:List Sg} {vs:List Value},RVs cx.G0 xs vs->CRs cx g st (xs.map fun s=>⟨s.sh,s.val,Pc s.sh⟩) vs
 |[],[],_=>trivial
 |x::xs,v::vs,h=>⟨Acm rfl h.1 hs,Za hs h.2⟩
 |[],_::_,h=>h.elim
 |_::_,[],h=>h.elim
theorem U0 {cx:Cx} {g:Gh} {st:St} (hs:cx.G0.sub g.G) {r:RV} {v:Value} (h:RVv cx.G0 r v):VRv cx g st r.1 (r.2.map fun s=>⟨s.sh,s.val,Pc s.sh⟩) v:=by
 obtain⟨a,xs⟩:=r
 cases a with
 |true=>obtain⟨vs,e,h⟩:=h;exact⟨vs,e,Za hs h⟩
 |false=>exact Za hs (xs:=xs) (vs:=[v]) h
theorem H0 (v:Value) (vs:List Value) (i n:Nat) (h:n+1<=i):(v::vs).getD (i-n) undef=vs.getD (i-(n+1)) undef:=by
 rw[show i-n=(i-(n+1))+1 by omega];simp
def Fa (st:St) (ts:List Nat):St:={st with live:=ts.reverse++st.live,used:=ts.reverse++st.used}
theorem Aad (st:St) (a b:List Nat):Fa (Fa st a) b=Fa st (a++b):=by simp[Fa,List.append_assoc]
theorem Nr {cx:Cx} {w:World}: ∀ {as:List RV} {ms:List Nat} {vals:List Value} {i n:Nat} {fr:Aa} {gh:Gh} {st:St},(ms.all fun m=>Nat.ble m 2)=true->AVa cx.G0 fr ms as vals->RM cx gh st w->Ai fr w->B4 cx gh st fr->(∀t,n<=t->t∉st.used)->
  ∃gh',RM cx gh' (Fa st (A1 i n ms as).2.2) w/\Ext gh st gh' (Fa st (A1 i n ms as).2.2)/\(A1 i n ms as).2.1=[]/\
   ∀(rest:List Value) j,i<=j->VR cx gh' (Fa st (A1 i n ms as).2.2) (look j (A1 i n ms as).1) ((vals++rest).getD (j-i) undef)
 |[],ms,[],i,n,fr,gh,st,_,_,hM,_,_,_=>by
  refine⟨gh,?_,?_,rfl,fun rest j _=>trivial⟩
  .simpa [A1,Fa] using hM
  .simpa [A1,Fa] using Ext.refl gh st
 |(a,xs)::as,ms,v::vals,i,n,fr,gh,st,hms,⟨g,h,hp,h1,h2⟩,hM,hl,hf,hu=>by
  have lg:Ai g w:=hl.sub (hp.2 g (by simp))
  have lh:Ai h w:=hl.sub (hp.2 h (by simp))
  have fg:B4 cx gh st g:=fun b o hb=>hf b o (hp.2 g (by simp) b o hb)
  have fh:B4 cx gh st h:=fun b o hb=>hf b o (hp.2 h (by simp) b o hb)
  have hgh:g.apart h:=(List.pairwise_cons.1 hp.1).1 h (by simp)
  have htail:(ms.tail.all fun m=>Nat.ble m 2)=true:=by
   cases ms with
   |nil=>rfl
   |cons m r=>simp only[List.all_cons,Bool.and_eq_true]at hms;exact hms.2
  have hhead:ms.headD 0<=2:=by
   cases ms with
   |nil=>simp
   |cons m r=>simp only[List.all_cons,Bool.and_eq_true]at hms;exact Nat.le_of_ble_eq_true hms.1
  by_cases h0:ms.headD 0=0
  .have hsp:A1 i n ms ((a,xs)::as)=((i,.v a (xs.map fun s=>⟨s.sh,s.val,Pc s.sh⟩))::(A1 (i+1) n ms.tail as).1,(A1 (i+1) n ms.tail as).2):=by
    simp only[A1,h0]
   rw[hsp]
   rw[h0]at h1
   obtain⟨g1,M1,E1,B1,L1⟩:=Nr (i:=i+1) (n:=n) htail h2 hM lh fh hu
   refine⟨g1,M1,E1,B1,fun rest j hj=>?_⟩
   rw[Cd]
   by_cases hji:j=i
   .subst hji
    rw[if_pos rfl]
    simp only[Nat.sub_self,List.cons_append,List.getD_cons_zero]
    exact U0 M1.g0 h1
   .rw[if_neg hji,List.cons_append,H0 _ _ _ _ (by omega)]
    exact L1 rest j (by omega)
  .have hO:OVv g (a,xs) v:=by
    have:ms.headD 0=1\/ms.headD 0=2:=by omega
    rcases this with e|e<;>rw[e]at h1<;>exact h1
   have hsp:A1 i n ms ((a,xs)::as)=((i,.v a (A2 n xs).1)::(A1 (i+1) (A2 n xs).2 ms.tail as).1,(A1 (i+1) (A2 n xs).2 ms.tail as).2.1,List.range' n ((A2 n xs).2-n)++(A1 (i+1) (A2 n xs).2 ms.tail as).2.2):=by
    have:ms.headD 0=1\/ms.headD 0=2:=by omega
    rcases this with e|e<;>simp only[A1,e]
   rw[hsp]
   have hge:=Eb n xs
   obtain⟨g1,M1,E1,C1,N1⟩:=Nh (n:=n) hM hO lg fg (fun t t1 _=>hu t t1)
   have hmore:more st n ((A2 n xs).2-n)=Fa st (List.range' n ((A2 n xs).2-n)):=rfl
   obtain⟨g2,M2,E2,B2,L2⟩:=Nr (i:=i+1) (n:=(A2 n xs).2) htail h2 M1 lh (N1 h fh (Aa.apart_symm hgh)) (fun t ht hm=>by
    rcases List.mem_append.1 hm with q|q
    .have:=List.mem_range'_1.1 (List.mem_reverse.1 q);omega
    .exact hu t (by omega) q)
   rw[hmore,Aad]at M2 E2 L2
   refine⟨g2,M2,E1.trans E2,B2,fun rest j hj=>?_⟩
   simp only
   rw[Cd]
   by_cases hji:j=i
   .subst hji
    rw[if_pos rfl]
    simp only[Nat.sub_self,List.cons_append,List.getD_cons_zero]
    exact VRv.ext E2 C1
   .rw[if_neg hji,List.cons_append,H0 _ _ _ _ (by omega)]
    exact L2 rest j (by omega)
 |[],_,_::_,_,_,_,_,_,_,h,_,_,_,_=>h.elim
 |_::_,_,[],_,_,_,_,_,_,h,_,_,_,_=>h.elim
theorem U1 {G:Ad}: ∀ {as:List RV} {ms:List Nat} {vals:List Value} {fr:Aa},AVa G fr ms as vals->as.length=vals.length
 |[],_,[],_,_=>rfl
 |_::_,_,_::_,_,⟨_,_,_,_,h⟩=>by simp[U1 h]
 |[],_,_::_,_,h=>h.elim
 |_::_,_,[],_,h=>h.elim
theorem Od {G:Ad}: ∀ {as:List RV} {vals:List Value},RVa G as vals->AVa G Aa.emp [] as vals
 |[],[],_=>trivial
 |x::xs,v::vs,h=>⟨Aa.emp,Aa.emp,⟨List.pairwise_cons.2 ⟨fun x _=>Aa.emp_apart x,List.pairwise_singleton _ _⟩,fun x hx=>by simp at hx;subst hx;exact Aa.sub_refl _⟩,h.1,Od h.2⟩
 |[],_::_,h=>h.elim
 |_::_,[],h=>h.elim
theorem U2 {G:Ad} {w:World} (h:Bt G w) {b o:Nat} {v:Value} (hv:G b o=some v):b<w.heap.size:=by
 rcases Nat.lt_or_ge b w.heap.size with q|q
 .exact q
 .rw[Fl h q o]at hv;cases hv
def gh0 (G:Ad) (b:Nat):Gh:=⟨G,fun _=>b,fun _=>Aa.emp,fun _=>undef,fun _=>0⟩
theorem Pt (vals:List Value) (nt i:Nat):((vals.toArray++Array.replicate (nt-vals.toArray.size) undef).getD i undef)=(vals++List.replicate (nt-vals.length) undef).getD (i-0) undef:=by
 simp[Array.getD_eq_getD_getElem?,List.getD_eq_getElem?_getD,Array.getElem?_append,List.getElem?_append,Array.getElem?_replicate,List.getElem?_replicate]
theorem U3 (vals:List Value) (np nt i:Nat) (v:Value) (h:(vals.take np)[i]? =some v):(vals.toArray++Array.replicate (nt-vals.toArray.size) undef).getD i undef=v:=by
 rw[Pt]
 rw[List.getElem?_take]at h
 split at h
 .rw[Nat.sub_zero,List.getD_eq_getElem?_getD,List.getElem?_append_left (List.getElem?_eq_some_iff.1 h).1,h];rfl
 .cases h
theorem Jq {w:World} {G:Ad} {fr:Aa} {ms:List Nat} {as:List RV} {vals:List Value} (np nt:Nat) (hms:(ms.all fun m=>Nat.ble m 2)=true) (hG:Bt G w) (htb:TOk w fr) (hl:Ai fr w) (hfr: ∀b,(fr b).isSome=true-> ∀o,G b o=none) (hv:AVa G fr ms as vals) (hle:as.length<=nt):
  ∃gh,RM ⟨w,fr,G,fun _=>undef,vals.take np,htb⟩ gh (B8 ms as) w/\Env nt ⟨w,fr,G,fun _=>undef,vals.take np,htb⟩ gh (B8 ms as) {tmps:=vals.toArray++Array.replicate (nt-vals.toArray.size) undef,defers:=[]}:=by
 have hM:RM ⟨w,fr,G,fun _=>undef,vals.take np,htb⟩ (gh0 G 0) ⟨[],[],[],[]⟩ w:=⟨Moved.refl _ _,hG,fun _ _ _ h=>h,fun b o v hv=>⟨U2 hG hv,by
   cases e:fr b with
   |none=>exact e
   |some x=>have h1:=hfr b (by rw[e];rfl) o;have h2:G b o=some v:=hv;rw[h1]at h2;cases h2⟩,fun k cs hk=>by simp[St.bx,Aq]at hk,fun i j hi=>by simp[St.has,St.bx,Aq]at hi,fun k o hk=>by simp[St.has,St.bx,Aq]at hk,fun t ht=>by simp at ht,fun t u ht=>by simp at ht,fun t k ht=>by simp at ht,List.nodup_nil,fun b o v hv=>.inl hv⟩
 obtain⟨gh,M1,E1,B1,L1⟩:=Nr (i:=0) (n:=tok0) hms hv hM hl (fun b o hb=>⟨.inr (by show(fr b).isSome=true;rw[hb];rfl),fun t ht=>by simp at ht,fun k hk=>by simp[St.has,St.bx,Aq]at hk,fun o'=>hfr b (by rw[hb];rfl) o'⟩) (fun t _ ht=>by simp at ht)
 have hst:B8 ms as={Fa ⟨[],[],[],[]⟩ (A1 0 tok0 ms as).2.2 with env:=(A1 0 tok0 ms as).1}:=by
  simp[B8,Fa,B1]
 have hX:Ext gh (Fa ⟨[],[],[],[]⟩ (A1 0 tok0 ms as).2.2) gh (B8 ms as):=by
  rw[hst]
  exact⟨fun _ _ _ h=>h,fun _ _=>rfl,fun _ h=>h,fun _ h=>h,fun t h _=>⟨h,rfl,rfl,rfl,fun _ _ _=>rfl⟩⟩
 refine⟨gh,?_,by simp;have:=U1 hv;omega,rfl,fun i=>?_,fun i v hi=>U3 _ _ _ _ _ hi⟩
 .rw[hst]
  exact⟨M1.moved,M1.lies,M1.g0,M1.old,fun k cs hk=>by simp[St.bx,Aq,Fa]at hk,fun i j hi=>by simp[St.has,St.bx,Aq,Fa]at hi,fun k o hk=>by simp[St.has,St.bx,Aq,Fa]at hk,M1.tok,M1.apart,fun t k _ hk=>by simp[St.has,St.bx,Aq,Fa]at hk,M1.nodup,M1.new⟩
 .have:=L1 (List.replicate (nt-vals.length) undef) i (Nat.zero_le _)
  rw[Pt]
  have h2:=this.ext hX
  have hg:(B8 ms as).get i=look i (A1 0 tok0 ms as).1:=rfl
  rw[hg];exact h2
theorem Wu: ∀ {a b:List RV} {vs us:List Value} {f:Aa},a.length=vs.length->OVt f (a++b) (vs++us)-> ∃f1 f2,Bm f [f1,f2]/\OVt f1 a vs/\OVt f2 b us
 |[],b,[],us,f,_,h=>⟨Aa.emp,f,⟨List.pairwise_cons.2 ⟨fun x _=>Aa.emp_apart x,List.pairwise_singleton _ _⟩,fun x hx=>by
   simp at hx
   rcases hx with rfl|rfl
   .exact Aa.emp_sub _
   .exact Aa.sub_refl _⟩,trivial,h⟩
 |x::a,b,v::vs,us,f,hl,⟨p,q,hp,h1,h2⟩=>by
  obtain⟨f1,f2,k1,k2,k3⟩:=Wu (by simpa using hl) h2
  have a1:f1.sub q:=k1.2 f1 (by simp)
  have a2:f2.sub q:=k1.2 f2 (by simp)
  have hpq:p.apart q:=(List.pairwise_cons.1 hp.1).1 q (by simp)
  have h12:f1.apart f2:=(List.pairwise_cons.1 k1.1).1 f2 (by simp)
  have hpf:p.apart f1:=Aa.apart_sub hpq (Aa.sub_refl _) a1
  refine⟨p.join f1,f2,⟨List.pairwise_cons.2 ⟨fun z hz=>?_,List.pairwise_singleton _ _⟩,fun z hz=>?_⟩,⟨p,f1,Bm.two hpf,h1,k2⟩,k3⟩
  .simp at hz;subst hz
   exact Aa.join_apart (Aa.apart_sub hpq (Aa.sub_refl _) a2) h12
  .simp at hz
   rcases hz with rfl|rfl
   .exact Aa.join_sub (hp.2 p (by simp)) (Aa.sub_trans a1 (hp.2 q (by simp)))
   .exact Aa.sub_trans a2 (hp.2 q (by simp))
 |[],_,_::_,_,_,h,_=>by simp at h
 |_::_,_,[],_,_,h,_=>by simp at h
theorem VRt.app {cx:Cx} {g:Gh} {st:St}: ∀ {a b:List (Bool×List Cl)} {vs us:List Value},VRt cx g st a vs->VRt cx g st b us->VRt cx g st (a++b) (vs++us)
 |[],_,[],_,_,h=>h
 |_::_,_,_::_,_,h,h'=>⟨h.1,h.2.app h'⟩
 |[],_,_::_,_,h,_=>h.elim
 |_::_,_,[],_,h,_=>h.elim
theorem VRt.len {cx:Cx} {g:Gh} {st:St}: ∀ {a:List (Bool×List Cl)} {vs:List Value},VRt cx g st a vs->a.length=vs.length
 |[],[],_=>rfl
 |_::_,_::_,h=>by simp[VRt.len h.2]
 |[],_::_,h=>h.elim
 |_::_,[],h=>h.elim
theorem Wv {cx:Cx} {nt:Nat} {g:Gh} {st:St} {a:Act} (hE:Env nt cx g st a): ∀ {ms:List Nat} {vals:List Value} {i:Nat} {m:List (Bool×List Cl)},(∀j v,vals[j]? =some v->j<ms.length->a.tmps.getD (i+j) undef=v)->ms.length<=vals.length->Rt st i ms=some m->
  ∃us,VRt cx g st m us/\ ∀f,OVt f (m.map strip) us->MOa f ms (m.map strip) vals
 |[],vals,i,m,_,_,h=>by
  simp[Rt]at h;subst h
  refine⟨[],trivial,fun f _=>?_⟩
  have key: ∀(vals:List Value) (f:Aa),MOa f [] [] vals:=by
   intro vals
   induction vals with
   |nil=>intro f;rfl
   |cons v vals ih=>intro f;exact ih f
  exact key vals f
 |m0::ms,[],i,m,_,hl,h=>by simp at hl
 |m0::ms,v::vals,i,m,hv,hl,h=>by
  simp only[Rt]at h
  obtain⟨r,hr,h2⟩:=Ab h
  clear h
  have h:cond (Nat.beq m0 1) (match st.get i with| .v a xs=>some ((a,xs)::r)|_=>none) (some r)=some m:=h2
  clear h2
  obtain⟨us,k1,k2⟩:=Wv hE (vals:=vals) (i:=i+1) (fun j u hj hlt=>by have:=hv (j+1) u (by simpa using hj) (by simp;omega);rw[show i+1+j=i+(j+1) by omega];exact this) (by simpa using hl) hr
  cases hb:Nat.beq m0 1 with
  |true=>
   rw[hb]at h
   simp only[cond_true]at h
   have e:=Nat.eq_of_beq_eq_true hb
   subst e
   cases hg:st.get i with
   |v ag xs=>
    rw[hg]at h
    simp at h;subst h
    have h0:=hE.2.2.1 i
    rw[hg]at h0
    have h1:=hv 0 v rfl (by simp)
    rw[Nat.add_zero]at h1
    rw[h1]at h0
    refine⟨v::us,⟨h0,k1⟩,fun f hf=>?_⟩
    obtain⟨p,q,hp,o1,o2⟩:=hf
    exact⟨p,q,hp,o1,k2 q o2⟩
   |any=>rw[hg]at h;cases h
   |box _ _=>rw[hg]at h;cases h
   |el _ _ _=>rw[hg]at h;cases h
   |tup _=>rw[hg]at h;cases h
  |false=>
   rw[hb]at h
   simp at h;subst h
   refine⟨us,k1,fun f hf=>?_⟩
   have hne:m0≠1:=fun e=>by subst e;cases hb
   have hrest:=k2 f hf
   unfold MOa
   simp only[List.headD_cons,List.tail_cons]
   split
   .exact(hne rfl).elim
   .exact(hne rfl).elim
   .exact hrest
end
section

def Pu (vs:List Value):Value:=if vs.length=1 then vs.headD undef else .tuple vs.toArray
theorem Oe {P:Program} {fn:Func} {a:Act} {w:World} {vs:List Value} (h1:(fn.results.toList.mapM (Ko a.tmps)).run P w= .ok vs w):(results fn a.tmps).run P w= .ok (Pu vs) w:=by
 rw[X9,Sem.run_bind,Array.mapM_eq_mapM_toList]
 simp only[Sem.run_map,h1,Result.andThen_ok,Sem.run_pure]
 congr 1
 unfold Pu
 by_cases h1':vs.length=1
 .have h2':vs.toArray.size=1:=by simpa using h1'
  rw[if_pos h1',dif_pos h2']
  match vs,h1' with
  |[v],_=>rfl
 .have h2': ¬vs.toArray.size=1:=by simpa using h1'
  rw[if_neg h1',dif_neg h2']
theorem CRs.rvs {cx:Cx} {g:Gh} {st:St}: ∀ {xs:List Cl} {vs:List Value},CRs cx g st xs vs->RVs g.G (xs.map fun c=>⟨c.sh,c.val⟩) vs
 |[],[],_=>trivial
 |x::xs,v::vs,h=>⟨h.1.1,CRs.rvs h.2⟩
 |[],_::_,h=>h.elim
 |_::_,[],h=>h.elim
theorem VRv.rvv {cx:Cx} {g:Gh} {st:St} {p:Bool×List Cl} {v:Value} (h:VRv cx g st p.1 p.2 v):RVv g.G (strip p) v:=by
 obtain⟨a,xs⟩:=p
 cases a with
 |true=>obtain⟨vs,e,h⟩:=h;exact⟨vs,e,h.rvs⟩
 |false=>exact CRs.rvs (vs:=[v]) h
theorem VRt.rva {cx:Cx} {g:Gh} {st:St}: ∀ {l:List (Bool×List Cl)} {vs:List Value},VRt cx g st l vs->RVa g.G (l.map strip) vs
 |[],[],_=>trivial
 |x::xs,v::vs,h=>⟨VRv.rvv h.1,VRt.rva h.2⟩
 |[],_::_,h=>h.elim
 |_::_,[],h=>h.elim
theorem U4 {G:Ad} {l:List RV} {vs:List Value} (h:RVa G l vs):Gz G l (Pu vs):=by
 match l,vs,h with
 |[],[],h=>exact⟨[],rfl,trivial⟩
 |[r],[v],h=>exact h.1
 |r::s::t,v::u::vs,h=>exact⟨v::u::vs,rfl,h⟩
 |[],_::_,h=>exact h.elim
 |_::_,[],h=>exact h.elim
 |[_],_::_::_,h=>exact h.2.elim
 |_::_::_,[_],h=>exact h.2.elim
theorem Pv {l:List RV} {vs:List Value} {F:Aa} (o1:OVt F l vs):D9 l (Pu vs) F:=by
 unfold Pu
 cases l with
 |nil=>
  cases vs with
  |nil=>exact⟨[],rfl,o1⟩
  |cons _ _=>exact o1.elim
 |cons x l=>
  cases l with
  |nil=>
   cases vs with
   |nil=>exact o1.elim
   |cons v vs=>
    cases vs with
    |nil=>
     obtain⟨p,q,hp,hO,_⟩:=o1
     have hx:D9 [x] v F:=OVv.sub hO (hp.2 p (by simp))
     simpa using hx
    |cons _ _=>obtain⟨_,_,_,_,h⟩:=o1;exact h.elim
  |cons y l=>
   cases vs with
   |nil=>exact o1.elim
   |cons v vs=>
    cases vs with
    |nil=>obtain⟨_,_,_,_,h⟩:=o1;exact h.elim
    |cons u vs=>exact⟨v::u::vs,by simp,o1⟩
theorem Fb: ∀ {n:Nat} {cs:List Cl},Ek n cs=true-> ∀(j:Nat) (x:Cl),cs[j]? =some x->Bs x.sh=true->x.tok= .pin (n+j)
 |n,[],_,j,x,h,_=>by simp at h
 |n,⟨.sl e cs,d,tk⟩::r,h,j,x,hx,hs=>by
  cases tk with
  |pin q=>
   simp only[Ek,Bool.and_eq_true]at h
   cases j with
   |zero=>simp at hx;subst hx;rw[Nat.add_zero,Nat.eq_of_beq_eq_true h.1]
   |succ j=>simp at hx;have:=Fb h.2 j x hx hs;rw[this];congr 1;omega
  |_=>simp[Ek]at h
 |n,⟨.int k,d,tk⟩::r,h,j,x,hx,hs=>by
  simp only[Ek]at h
  cases j with
  |zero=>simp at hx;subst hx;cases hs
  |succ j=>simp at hx;have:=Fb h j x hx hs;rw[this];congr 1;omega
 |n,⟨.bool,d,tk⟩::r,h,j,x,hx,hs=>by
  simp only[Ek]at h
  cases j with
  |zero=>simp at hx;subst hx;cases hs
  |succ j=>simp at hx;have:=Fb h j x hx hs;rw[this];congr 1;omega
 |n,⟨.str,d,tk⟩::r,h,j,x,hx,hs=>by
  simp only[Ek]at h
  cases j with
  |zero=>simp at hx;subst hx;cases hs
  |succ j=>simp at hx;have:=Fb h j x hx hs;rw[this];congr 1;omega
 |n,⟨.junk,d,tk⟩::r,h,j,x,hx,hs=>by
  simp only[Ek]at h
  cases j with
  |zero=>simp at hx;subst hx;cases hs
  |succ j=>simp at hx;have:=Fb h j x hx hs;rw[this];congr 1;omega
theorem F6: ∀ {cs:List Cl},Fj cs=true-> ∀(j:Nat) (x:Cl),cs[j]? =some x->Bs x.sh=true->H4 x.tok=true
 |[],_,j,x,h,_=>by simp at h
 |⟨.sl e cs,d,tk⟩::r,h,j,x,hx,hs=>by
  simp only[Fj,Bool.and_eq_true]at h
  cases j with
  |zero=>simp at hx;subst hx;exact h.1
  |succ j=>simp at hx;exact F6 h.2 j x hx hs
 |⟨.int k,d,tk⟩::r,h,j,x,hx,hs=>by
  simp only[Fj]at h
  cases j with
  |zero=>simp at hx;subst hx;cases hs
  |succ j=>simp at hx;exact F6 h j x hx hs
 |⟨.bool,d,tk⟩::r,h,j,x,hx,hs=>by
  simp only[Fj]at h
  cases j with
  |zero=>simp at hx;subst hx;cases hs
  |succ j=>simp at hx;exact F6 h j x hx hs
 |⟨.str,d,tk⟩::r,h,j,x,hx,hs=>by
  simp only[Fj]at h
  cases j with
  |zero=>simp at hx;subst hx;cases hs
  |succ j=>simp at hx;exact F6 h j x hx hs
 |⟨.junk,d,tk⟩::r,h,j,x,hx,hs=>by
  simp only[Fj]at h
  cases j with
  |zero=>simp at hx;subst hx;cases hs
  |succ j=>simp at hx;exact F6 h j x hx hs
theorem Ad2 {cx:Cx} {g:Gh} {st:St} {x:Cl} {v:Value} (h:CR cx g st x v) (hr:Bs x.sh=true->H4 x.tok=true):RdD cx.G0 x.sh x.val v:=by
 obtain⟨h1,h2⟩:=h
 cases hs:Bs x.sh with
 |false=>exact RdD.scalar hs h1
 |true=>
  have hr:=hr hs
  obtain⟨sh,val,tok⟩:=x
  cases tok with
  |ro=>exact h2
  |pin j=>exact h2.1
  |nil=>
   cases sh with
   |sl e cs=>obtain⟨a,ha⟩:=h2 e cs rfl;exact Nf h1 ha _
   |_=>cases hs
  |_=>cases hr
theorem U5 {cx:Cx} {g:Gh} {st:St}: ∀ {cs:List Cl} {vs:List Value},CRs cx g st cs vs->(∀(j:Nat) (x:Cl),cs[j]? =some x->Bs x.sh=true->H4 x.tok=true)->RVs cx.G0 (cs.map fun c=>⟨c.sh,c.val⟩) vs
 |[],[],_,_=>trivial
 |x::xs,v::vs,h,hr=>⟨Ad2 h.1 (hr 0 x rfl),U5 h.2 (fun j y hj=>hr (j+1) y (by simpa using hj))⟩
 |[],_::_,h,_=>h.elim
 |_::_,[],h,_=>h.elim
theorem U6 {cx:Cx} {g:Gh} {st:St} (hs:cx.G0.sub g.G): ∀ {xs:List Sg} {vs:List Value} {n:Nat},RVs cx.G0 xs vs->(∀j v,vs[j]? =some v->cx.P (n+j)=v)->CRs cx g st ((xs.zipIdx n).map fun(s,j)=>⟨s.sh,s.val,C9 s.sh (.pin j)⟩) vs
 |[],[],n,_,_=>trivial
 |x::xs,v::vs,n,h,hP=>by
  simp only[List.zipIdx_cons,List.map_cons]
  refine⟨⟨RdD.sub hs _ _ _ h.1,?_⟩,U6 hs h.2 (fun j u hj=>by have:=hP (j+1) u (by simpa using hj);rw[show n+1+j=n+(j+1) by omega];exact this)⟩
  obtain⟨s,d⟩:=x
  cases s with
  |sl e cs=>exact⟨h.1,(hP 0 v rfl).symm⟩
  |_=>intro _ _ e;cases e
 |[],_::_,_,h,_=>h.elim
 |_::_,[],_,h,_=>h.elim
theorem Ww {cx:Cx} {g:Gh} {st:St} {G:Ad} (hG:cx.G0=G) (hs:cx.G0.sub g.G) {b:Nat} {vs0:List Value}: ∀ {as:List RV} {ms:List Nat} {vals:List Value} {i n:Nat},(ms.all fun m=>Nat.beq m 0)=true->BVa G b vs0 ms as vals->
  (A1 i n ms as).2=([],[])/\ ∀(rest:List Value) j,i<=j->VR cx g st (look j (A1 i n ms as).1) ((vals++rest).getD (j-i) undef)
 |[],ms,[],i,n,_,_=>⟨rfl,fun rest j _=>trivial⟩
 |(a,xs)::as,ms,v::vals,i,n,hz,⟨h1,h2⟩=>by
  have h0:ms.headD 0=0:=by
   cases ms with
   |nil=>rfl
   |cons m r=>simp only[List.all_cons,Bool.and_eq_true]at hz;exact Nat.eq_of_beq_eq_true hz.1
  have ht:(ms.tail.all fun m=>Nat.beq m 0)=true:=by
   cases ms with
   |nil=>rfl
   |cons m r=>simp only[List.all_cons,Bool.and_eq_true]at hz;exact hz.2
  have hsp:A1 i n ms ((a,xs)::as)=((i,.v a (xs.map fun s=>⟨s.sh,s.val,Pc s.sh⟩))::(A1 (i+1) n ms.tail as).1,(A1 (i+1) n ms.tail as).2):=by
   simp only[A1,h0]
  rw[hsp]
  rw[if_neg (by omega)]at h1
  obtain⟨k1,k2⟩:=Ww (i:=i+1) (n:=n) hG hs ht h2
  refine⟨k1,fun rest j hj=>?_⟩
  rw[Cd]
  by_cases hji:j=i
  .subst hji
   rw[if_pos rfl]
   simp only[Nat.sub_self,List.cons_append,List.getD_cons_zero]
   exact U0 hs (by rw[hG];exact h1)
  .rw[if_neg hji,List.cons_append,H0 _ _ _ _ (by omega)]
   exact k2 rest j (by omega)
 |[],_,_::_,_,_,_,h=>h.elim
 |_::_,_,[],_,_,_,h=>h.elim
theorem Aae {cx:Cx} {g:Gh} {st:St} {G:Ad} (hG:cx.G0=G) (hs:cx.G0.sub g.G) {b:Nat} {vs0:List Value} (hgB: ∀k,g.B k=b): ∀ {as:List RV} {ms:List Nat} {vals:List Value} {i n:Nat},Ke ms=true->BVa G b vs0 ms as vals->
  as=[]\/(ms.length<=as.length-> ∃p xs,(A1 i n ms as).2=([(p,(xs.zipIdx.map fun(s,j)=>⟨s.sh,s.val,C9 s.sh (.pin j)⟩))],[])/\RVs G xs vs0/\i<=p/\vals[p-i]? =some (.pointer (some ⟨b,0,none⟩))/\p-i<ms.length/\
   ∀(rest:List Value) j,i<=j->(st.has p=true->VR cx g st (look j (A1 i n ms as).1) ((vals++rest).getD (j-i) undef)))
 |[],ms,[],i,n,_,_=>.inl rfl
 |(a,xs)::as,ms,v::vals,i,n,hz,⟨h1,h2⟩=>by
  right
  intro hlen
  cases ms with
  |nil=>cases hz
  |cons m r=>
  simp only[Ke]at hz
  cases h3:Nat.beq m 3 with
  |true=>
   rw[h3]at hz
   have e:=Nat.eq_of_beq_eq_true h3
   subst e
   rw[if_pos (show(3::r).headD 0=3 from rfl)]at h1
   obtain⟨rfl,hxs⟩:=h1
   obtain⟨k1,k2⟩:=Ww (st:=st) (i:=i+1) (n:=n) hG hs hz h2
   have hsp:A1 i n (3::r) ((a,xs)::as)=((i,.box i 0)::(A1 (i+1) n r as).1,(i,xs.zipIdx.map fun(s,j)=>⟨s.sh,s.val,C9 s.sh (.pin j)⟩)::(A1 (i+1) n r as).2.1,(A1 (i+1) n r as).2.2):=rfl
   rw[hsp]
   have k1:(A1 (i+1) n r as).2=([],[]):=k1
   refine⟨i,xs,by simp only[k1],hxs,Nat.le_refl _,by simp,by simp,fun rest j hj hh=>?_⟩
   rw[Cd]
   by_cases hji:j=i
   .subst hji
    rw[if_pos rfl]
    simp only[Nat.sub_self,List.cons_append,List.getD_cons_zero]
    exact⟨hh,by rw[hgB]⟩
   .rw[if_neg hji,List.cons_append,H0 _ _ _ _ (by omega)]
    exact k2 rest j (by omega)
  |false=>
   rw[h3]at hz
   simp only[cond_false]at hz
   cases h0:Nat.beq m 0 with
   |false=>rw[h0]at hz;cases hz
   |true=>
    rw[h0]at hz
    have e:=Nat.eq_of_beq_eq_true h0
    subst e
    rw[if_neg (show ¬((0::r).headD 0=3) by simp)]at h1
    have hsp:A1 i n (0::r) ((a,xs)::as)=((i,.v a (xs.map fun s=>⟨s.sh,s.val,Pc s.sh⟩))::(A1 (i+1) n r as).1,(A1 (i+1) n r as).2):=rfl
    rw[hsp]
    rcases Aae (st:=st) hG hs hgB (i:=i+1) (n:=n) hz h2 with q|q
    .subst q
     simp only[List.tail_cons]at h2
     cases r with
     |nil=>cases hz
     |cons _ _=>simp at hlen
    .simp only[List.tail_cons]at q
     obtain⟨p,xs',q1,q2,q3,q4,q5,q6⟩:=q (by simpa using hlen)
     refine⟨p,xs',q1,q2,by omega,?_,by simp;omega,fun rest j hj hh=>?_⟩
     .rw[show p-i=(p-(i+1))+1 by omega];simpa using q4
     .rw[Cd]
      by_cases hji:j=i
      .subst hji
       rw[if_pos rfl]
       simp only[Nat.sub_self,List.cons_append,List.getD_cons_zero]
       exact U0 hs (by rw[hG];exact h1)
      .rw[if_neg hji,List.cons_append,H0 _ _ _ _ (by omega)]
       exact q6 rest j (by omega) hh
 |[],_,_::_,_,_,_,h=>h.elim
 |_::_,_,[],_,_,_,h=>h.elim
theorem Aaf {G:Ad} {b:Nat} {vs0:List Value}: ∀ {as:List RV} {ms:List Nat} {vals:List Value},BVa G b vs0 ms as vals->as.length=vals.length
 |[],_,[],_=>rfl
 |_::_,_,_::_,h=>by simp[Aaf h.2]
 |[],_,_::_,h=>h.elim
 |_::_,_,[],h=>h.elim
theorem Wx {pinned own:Bool} {st:St}: ∀ {i:Nat} {ms:List Nat} {o:List RV},Nc pinned own st i ms=some o->o=[]\/ ∃j cs,i<=j/\j-i<ms.length/\ms[j-i]? =some 3/\st.get j= .box j 0/\st.bx j=some cs/\cond pinned (Ek 0 cs) (cond own (Fj cs) true)=true/\o=[strip (true,cs)]
 |i,[],o,h=>by simp[Nc]at h;exact .inl h
 |i,m::ms,o,h=>by
  simp only[Nc]at h
  cases h3:Nat.beq m 3 with
  |true=>
   rw[h3]at h
   simp only[cond_true]at h
   right
   have e:=Nat.eq_of_beq_eq_true h3
   cases hg:st.get i with
   |box j off=>
    rw[hg]at h
    cases off with
    |succ off=>cases h
    |zero=>
     obtain⟨hij,h2⟩:=Ae h
     obtain⟨cs,hcs,h4⟩:=Ab h2
     obtain⟨hc,h5⟩:=Ae h4
     simp at h5
     have hij:=Nat.eq_of_beq_eq_true hij
     exact⟨i,cs,Nat.le_refl _,by simp,by simp[e],by rw[hg,hij],hcs,hc,h5.symm⟩
   |any=>rw[hg]at h;cases h
   |v _ _=>rw[hg]at h;cases h
   |el _ _ _=>rw[hg]at h;cases h
   |tup _=>rw[hg]at h;cases h
  |false=>
   rw[h3]at h
   simp only[cond_false]at h
   rcases Wx h with q|⟨j,cs,q1,q2,q3,q4⟩
   .exact .inl q
   .right
    refine⟨j,cs,by omega,by simp;omega,?_,q4⟩
    rw[show j-i=(j-(i+1))+1 by omega];simpa using q3
section
variable {P:Program} {g:Cfg} (hC:CfgOk P g) {np:Nat} {Λ:Hq} {f:FuncId} {fn:Func} (hf:P.funcs[f]? =some fn) (hL: ∀cx b,cx.pin.length<=np->b∈B6 (fn.body.getD .skip)->Kn P cx fn.ntmps Λ b)
include hC hf hL
theorem Abu {kd:Kind} {F:A7} (hF: ∀as res,(F as).val=some res->H6 g np Λ fn kd as=some res):Rv P f kd F:=by
 have hfin: ∀ {cx:Cx} {gh:Gh} {st':St} {a':Act} {w':World} {l:List (Bool×List Cl)} {m:List (Bool×List Cl)} {us:List Value} {ate live':List Nat},RM cx gh st' w'->Env fn.ntmps cx gh st' a'->C7 g st' fn.results.toList=some l->VRt cx gh st' m us->Dx (l++m)=some ate->eat st'.live ate=some live'->
   ∃vs f1 f2,(results fn a'.tmps).run P w'= .ok (Pu vs) w'/\Ai f1 w'/\Ai f2 w'/\f1.apart f2/\(∀b o,f1 b=some o\/f2 b=some o->B0 cx b/\ ∀k,st'.has k=true->gh.B k≠b)/\OVt f1 (l.map strip) vs/\OVt f2 (m.map strip) us:=by
  intro cx gh st' a' w' l m us ate live' hm en hl hmm hgv hea
  obtain⟨vs,h1,h2⟩:=Hz hC hm en hl
  obtain⟨F,o1,o2,o3,o4⟩:=Ra hm (fun _ h=>h) hm.nodup (h2.app hmm) hgv hea
  rw[List.map_append]at o1
  obtain⟨f1,f2,k1,k2,k3⟩:=Wu (by simpa using h2.len) o1
  have hlf:Ai F w':=fun b o hb=>by obtain⟨t,t1,_,t3⟩:=o4 b o hb;exact(hm.tok t t1).2.1 b o t3
  have hmine: ∀b o,F b=some o->B0 cx b/\ ∀k,st'.has k=true->gh.B k≠b:=fun b o hb=>by
   obtain⟨t,t1,_,t3⟩:=o4 b o hb
   refine⟨(hm.tok t t1).2.2 b o t3,fun k hk he=>?_⟩
   have:=hm.tokBox t k t1 hk
   rw[he,t3]at this;cases this
  have s1:=k1.2 f1 (by simp)
  have s2:=k1.2 f2 (by simp)
  refine⟨vs,f1,f2,Oe h1,hlf.sub s1,hlf.sub s2,(List.pairwise_cons.1 k1.1).1 f2 (by simp),fun b o hb=>?_,k2,k3⟩
  rcases hb with hb|hb
  .exact hmine b o (s1 b o hb)
  .exact hmine b o (s2 b o hb)
 cases kd with
 |plain=>
  intro as res vals w G h hG htab hvals
  have h:=hF as res h
  simp only[H6]at h
  obtain⟨hle,h⟩:=Ae h
  have hle:=Nat.le_of_ble_eq_true hle
  obtain⟨c,hc,h⟩:=Ab h
  refine calls_of_wp hf hc ?_
  obtain⟨gh,hM,hE⟩:=Jq np fn.ntmps (ms:=[]) rfl hG htab (Ai.emp w) (fun b hb=>by cases hb) (Od hvals) hle
  refine I9 hC (by simp;omega) hM hE h (fun b hb=>hL _ b (by simp;omega) (by simp[hc,hb])) (fun e gh' st' a' w' m en hr=>?_)
  have fin: ∀l,C7 g st' fn.results.toList=some l->(ob (Dx l) fun a=>ob (eat st'.live a) fun _=>some (l.map strip,([]:List RV)))=some res->a'.defers=[]/\ ∃v,(results fn a'.tmps).run P w'= .ok v w'/\Fv w (D9 res.1) (.returned v) w':=by
   intro l hl hgv0
   obtain⟨ate,hgv,hgv1⟩:=Ab hgv0
   obtain⟨live',hea,hres⟩:=Ab hgv1
   simp at hres;subst hres
   obtain⟨vs,f1,f2,k1,k2,k3,k4,k5,k6,k7⟩:=hfin (m:=[]) (us:=[]) m en hl trivial (by simpa using hgv) hea
   refine⟨en.2.1,_,k1,Fv.mk f1 (Moved.grew m.moved (As.refl w) (Aa.from_emp _)) k2 (fun b o hb=>?_) (Pv k6)⟩
   rcases(k5 b o (.inl hb)).1 with q|q
   .exact q
   .cases q
  cases e with
  |exit i=>simp at hr
  |normal=>obtain⟨l,hl,hr⟩:=Ab hr;exact fin l hl hr
  |ret=>obtain⟨l,hl,hr⟩:=Ab hr;exact fin l hl hr
 |view=>
  intro as res vals w G h hG htab hvals
  have h:=hF as res h
  simp only[H6]at h
  obtain⟨hle,h⟩:=Ae h
  have hle:=Nat.le_of_ble_eq_true hle
  obtain⟨c,hc,h⟩:=Ab h
  refine calls_of_wp hf hc ?_
  obtain⟨gh,hM,hE⟩:=Jq np fn.ntmps (ms:=[]) rfl hG htab (Ai.emp w) (fun b hb=>by cases hb) (Od hvals) hle
  refine I9 hC (by simp;omega) hM hE h (fun b hb=>hL _ b (by simp;omega) (by simp[hc,hb])) (fun e gh' st' a' w' m en hr=>?_)
  have fin: ∀l,C7 g st' fn.results.toList=some l->some (l.map strip,([]:List RV))=some res->a'.defers=[]/\ ∃v,(results fn a'.tmps).run P w'= .ok v w'/\ ∃v' G',(Ending.returned v)= .returned v'/\As w w'/\Bt G' w'/\G.sub G'/\(∀b o x,G' b o=some x->G b o=some x\/w.heap.size<=b)/\Gz G' res.1 v':=by
   intro l hl hres
   simp at hres;subst hres
   obtain⟨vs,h1,h2⟩:=Hz hC m en hl
   refine⟨en.2.1,_,Oe h1,_,gh'.G,rfl,Moved.grew m.moved (As.refl w) (Aa.from_emp _),m.lies,m.g0,fun b o x hx=>?_,U4 h2.rva⟩
   rcases m.new b o x hx with q|q|q
   .exact .inl q
   .exact .inr q
   .cases q
  cases e with
  |exit i=>simp at hr
  |normal=>obtain⟨l,hl,hr⟩:=Ab hr;exact fin l hl hr
  |ret=>obtain⟨l,hl,hr⟩:=Ab hr;exact fin l hl hr
 |ret=>
  intro as res vals w G h hG htab hvals
  have h:=hF as res h
  simp only[H6]at h
  obtain⟨hle,h⟩:=Ae h
  have hle:=Nat.le_of_ble_eq_true hle
  obtain⟨c,hc,h⟩:=Ab h
  refine calls_of_wp hf hc ?_
  obtain⟨gh,hM,hE⟩:=Jq np fn.ntmps (ms:=[]) rfl hG htab (Ai.emp w) (fun b hb=>by cases hb) (Od hvals) hle
  refine I9 hC (by simp;omega) hM hE h (fun b hb=>hL _ b (by simp;omega) (by simp[hc,hb])) (fun e gh' st' a' w' m en hr=>?_)
  have fin:(match fn.results.toList with
   |[.tmp t]=>match st'.get t with
    | .box b 0=>ob (st'.bx b) fun cs=>chk (Fj cs) (some ([strip (true,cs)],([]:List RV)))
    |_=>none
   |_=>none)=some res->a'.defers=[]/\ ∃v,(results fn a'.tmps).run P w'= .ok v w'/\ ∃b vs ty ag r,(Ending.returned v)= .returned (.pointer (some ⟨b,0,none⟩))/\As w w'/\w.heap.size<=b/\w'.heap[b]? =some (.cells (vs:List Value).toArray ty (0,0))/\res.1=[(ag,r)]/\RVs G r vs:=by
   intro hr
   split at hr
   .rename_i t hrs
    split at hr
    .rename_i b hg
     obtain⟨cs,hcs,hr⟩:=Ab hr
     obtain⟨hro,hr⟩:=Ae hr
     simp at hr;subst hr
     have hv:=en.2.2.1 t
     rw[hg]at hv
     obtain⟨vs,e,g1,g2,g3⟩:=m.box b cs hcs
     refine⟨en.2.1,Pu [a'.tmps.getD t undef],Oe (by rw[hrs];simp[List.mapM_cons,Sem.run_bind,Ko]),gh'.B b,vs,e,true,_,?_,Moved.grew m.moved (As.refl w) (Aa.from_emp _),?_,g1,rfl,U5 g3 (F6 hro)⟩
     .rw[hv.2];rfl
     .rcases g2 with q|q
      .exact q
      .cases q
    .cases hr
   .cases hr
  cases e with
  |exit i=>simp at hr
  |normal=>exact fin hr
  |ret=>exact fin hr
 |lend ms=>
  intro as res vals w G fr h hG htab hlfr hfr hava
  have h:=hF as res h
  simp only[H6]at h
  obtain⟨hle,h⟩:=Ae h
  simp only[Bool.and_eq_true]at hle
  obtain⟨⟨⟨hle1,hle2⟩,hle3⟩,hle4⟩:=hle
  have hle2:=Nat.le_of_ble_eq_true hle2
  have hle3:=Nat.le_of_ble_eq_true hle3
  have hle4:=Nat.le_of_ble_eq_true hle4
  obtain⟨c,hc,h⟩:=Ab h
  refine calls_of_wp hf hc ?_
  have hlen:=U1 hava
  obtain⟨gh,hM,hE⟩:=Jq np fn.ntmps hle1 hG htab hlfr hfr hava hle2
  refine I9 hC (by simp;omega) hM hE h (fun b hb=>hL _ b (by simp;omega) (by simp[hc,hb])) (fun e gh' st' a' w' m en hr=>?_)
  have fin: ∀l,C7 g st' fn.results.toList=some l->(ob (Rt st' 0 ms) fun m=>ob (Dx (l++m)) fun a=>ob (eat st'.live a) fun _=>some (l.map strip,m.map strip))=some res->a'.defers=[]/\ ∃v,(results fn a'.tmps).run P w'= .ok v w'/\ ∃v1 f g,(Ending.returned v)= .returned v1/\Moved fr w w'/\Ai f w'/\Ai g w'/\f.apart g/\f.newOr fr w.heap.size/\g.newOr fr w.heap.size/\D9 res.1 v1 f/\MOa g ms res.2 vals:=by
   intro l hl hgv0
   obtain⟨mm,hmm,hgv0⟩:=Ab hgv0
   obtain⟨ate,hgv,hgv1⟩:=Ab hgv0
   obtain⟨live',hea,hres⟩:=Ab hgv1
   simp at hres;subst hres
   obtain⟨us,o1,o2⟩:=Wv en (vals:=vals) (fun j v hj hlt=>by rw[Nat.zero_add];exact en.2.2.2 j v (by show(vals.take np)[j]? =_;rw[List.getElem?_take,if_pos (by omega)];exact hj)) (by omega) hmm
   obtain⟨vs,f1,f2,k1,k2,k3,k4,k5,k6,k7⟩:=hfin m en hl o1 hgv hea
   have hno: ∀b o,f1 b=some o\/f2 b=some o->fr b≠none\/w.heap.size<=b:=fun b o hb=>by
    rcases(k5 b o hb).1 with q|q
    .exact .inr q
    .left;intro e;have q':(fr b).isSome=true:=q;rw[e]at q';cases q'
   exact⟨en.2.1,_,k1,_,f1,f2,rfl,m.moved,k2,k3,k4,fun b o hb=>hno b o (.inl hb),fun b o hb=>hno b o (.inr hb),Pv k6,o2 f2 k7⟩
  cases e with
  |exit i=>simp at hr
  |normal=>obtain⟨l,hl,hr⟩:=Ab hr;exact fin l hl hr
  |ret=>obtain⟨l,hl,hr⟩:=Ab hr;exact fin l hl hr
 |box ms pinned own=>
  intro as res vals w G b vs0 e0 h hG htab hGb hblk hbva
  have h:=hF as res h
  simp only[H6]at h
  obtain⟨hle,h⟩:=Ae h
  simp only[Bool.and_eq_true]at hle
  obtain⟨⟨⟨hle1,hle2⟩,hle3⟩,hle4⟩:=hle
  have hle2:=Nat.le_of_ble_eq_true hle2
  have hle3:=Nat.le_of_ble_eq_true hle3
  have hle4:=Nat.le_of_ble_eq_true hle4
  obtain⟨c,hc,h⟩:=Ab h
  refine calls_of_wp hf hc ?_
  have hlen:=Aaf hbva
  let cx:Cx:=⟨w,Aa.one b (.cells vs0.toArray e0 (0,0)),G,fun j=>vs0.getD j undef,vals.take np,htab⟩
  have hb0:b<w.heap.size:=(Array.getElem?_eq_some_iff.1 hblk).1
  rcases Aae (cx:=cx) (g:=gh0 G b) (st:=B8 ms as) (G:=G) rfl (fun _ _ _ h=>h) (fun k=>rfl) (i:=0) (n:=tok0) hle1 hbva with q|q
  .subst q
   cases ms with
   |nil=>cases hle1
   |cons _ _=>simp at hle4
  obtain⟨p,xs,q1,q2,q3,q4,q5,q6⟩:=q hle4
  have hbx:(B8 ms as).boxes=[(p,(xs.zipIdx.map fun(s,j)=>⟨s.sh,s.val,C9 s.sh (.pin j)⟩))]:=by simp only[B8,q1]
  have hlv:(B8 ms as).live=[]/\(B8 ms as).used=[]:=by simp only[B8,q1];exact⟨rfl,rfl⟩
  have hbxk: ∀k cs,(B8 ms as).bx k=some cs->k=p/\cs=(xs.zipIdx.map fun(s,j)=>⟨s.sh,s.val,C9 s.sh (.pin j)⟩):=fun k cs hk=>by
   unfold St.bx at hk
   rw[hbx]at hk
   simp only[Aq]at hk
   cases hkp:Nat.beq k p with
   |true=>rw[hkp]at hk;simp at hk;exact⟨Nat.eq_of_beq_eq_true hkp,hk.symm⟩
   |false=>rw[hkp]at hk;cases hk
  have hhas:(B8 ms as).has p=true:=by unfold St.has St.bx;rw[hbx];simp[Aq]
  have hmine:B0 cx b:=.inr (by show(Aa.one b _ b).isSome=true;rw[D7];rfl)
  have hM:RM cx (gh0 G b) (B8 ms as) w:=by
   refine⟨Moved.refl _ _,hG,fun _ _ _ h=>h,fun c o v hv=>⟨U2 hG hv,?_⟩,fun k cs hk=>?_,fun i j hi hj _=>?_,fun k o _=>hGb o,fun t ht=>(by rw[hlv.1]at ht;cases ht),fun t u ht=>(by rw[hlv.1]at ht;cases ht),fun t k ht=>(by rw[hlv.1]at ht;cases ht),(by rw[hlv.1];exact List.nodup_nil),fun b o v hv=>.inl hv⟩
   .show Aa.one b _ c=none
    simp only[Aa.one]
    rw[if_neg]
    intro e;subst e
    have hv':G c o=some v:=hv
    rw[hGb o]at hv';cases hv'
   .obtain⟨rfl,rfl⟩:=hbxk k cs hk
    refine⟨vs0,e0,hblk,hmine,U6 (fun _ _ _ h=>h) q2 (fun j v hj=>?_)⟩
    show vs0.getD (0+j) undef=v
    rw[Nat.zero_add,List.getD_eq_getElem?_getD,hj];rfl
   .obtain⟨cs,hcs⟩:=Bw hi
    obtain⟨cs',hcs'⟩:=Bw hj
    rw[(hbxk i cs hcs).1,(hbxk j cs' hcs').1]
  have hE:Env fn.ntmps cx (gh0 G b) (B8 ms as) {tmps:=vals.toArray++Array.replicate (fn.ntmps-vals.toArray.size) undef,defers:=[]}:=by
   refine⟨by simp;omega,rfl,fun i=>?_,fun i v hi=>U3 _ _ _ _ _ hi⟩
   rw[Pt]
   exact q6 (List.replicate (fn.ntmps-vals.length) undef) i (Nat.zero_le _) hhas
  refine I9 hC (by simp[cx];omega) hM hE h (fun b hb=>hL _ b (by simp[cx];omega) (by simp[hc,hb])) (fun e gh' st' a' w' m en hr=>?_)
  have fin: ∀l,C7 g st' fn.results.toList=some l->(ob (cond own (ob (Dx l) fun a=>eat st'.live a) (some [])) fun _=>ob (Nc pinned own st' 0 ms) fun o=>some (l.map strip,o))=some res->a'.defers=[]/\ ∃v,(results fn a'.tmps).run P w'= .ok v w'/\
    ∃v1 vs1 e1 ag new,(Ending.returned v)= .returned v1/\Moved (Aa.one b (.cells vs0.toArray e0 (0,0))) w w'/\(own=true-> ∃f,Ai f w'/\f.from_ w.heap.size/\D9 res.1 v1 f)/\(own=false-> ∃G':Ad,Bt G' w'/\G.sub G'/\(∀c o x,G' c o=some x->G c o=some x\/w.heap.size<=c)/\Gz G' res.1 v1/\RVs G' new vs1)/\w'.heap[b]? =some (.cells (vs1:List Value).toArray e1 (0,0))/\
     res.2=[(ag,new)]/\(own=true->RVs G new vs1)/\(pinned=true-> ∀(j:Nat) (s:Sg),(new:List Sg)[j]? =some s->Bs s.sh=true->vs1[j]? =vs0[j]?):=by
   intro l hl hgv0
   obtain⟨live',hgv1,hgv2⟩:=Ab hgv0
   obtain⟨oo,hoo,hres⟩:=Ab hgv2
   simp at hres;subst hres
   have hsome: ∃j cs,j<ms.length/\ms[j]? =some 3/\st'.get j= .box j 0/\st'.bx j=some cs/\cond pinned (Ek 0 cs) (cond own (Fj cs) true)=true/\oo=[strip (true,cs)]:=by
    rcases Wx hoo with z|⟨j,cs,z1,z2,z3,z4⟩
    .exfalso
     subst z
     have: ∀ {ms:List Nat} {i:Nat},Ke ms=true->Nc pinned own st' i ms≠some []:=by
      intro ms
      induction ms with
      |nil=>intro i h;cases h
      |cons m r ih=>
       intro i h hh
       simp only[Ke]at h
       simp only[Nc]at hh
       cases h3:Nat.beq m 3 with
       |true=>
        rw[h3]at hh
        simp only[cond_true]at hh
        split at hh
        .obtain⟨_,hh⟩:=Ae hh
         obtain⟨cs,_,hh⟩:=Ab hh
         obtain⟨_,hh⟩:=Ae hh
         simp at hh
        .cases hh
       |false=>
        rw[h3]at h hh
        simp only[cond_false]at h hh
        cases h0:Nat.beq m 0 with
        |true=>rw[h0]at h;exact ih h hh
        |false=>rw[h0]at h;cases h
     exact this hle1 hoo
    .rw[Nat.sub_zero]at z2 z3
     exact⟨j,cs,z2,z3,z4⟩
   obtain⟨j,cs,z1,z2,z3,z4,z5,rfl⟩:=hsome
   have hvj:=en.2.2.1 j
   rw[z3]at hvj
   have hvalj:vals[j]? =some (.pointer (some ⟨b,0,none⟩)):=by
    have: ∀ {as:List RV} {ms:List Nat} {vals:List Value} {j:Nat},BVa G b vs0 ms as vals->ms[j]? =some 3->j<vals.length->vals[j]? =some (.pointer (some ⟨b,0,none⟩)):=by
     intro as
     induction as with
     |nil=>intro ms vals j h hj hl;cases vals with|nil=>simp at hl|cons _ _=>exact h.elim
     |cons x as ih=>
      intro ms vals j h hj hl
      cases vals with
      |nil=>simp at hl
      |cons v vals=>
       cases ms with
       |nil=>simp at hj
       |cons m r=>
        cases j with
        |zero=>
         simp at hj;subst hj
         obtain⟨h1,_⟩:=h
         simp at h1
         simp[h1.1]
        |succ j=>simp at hj hl;simpa using ih h.2 hj hl
    exact this hbva z2 (by omega)
   have hpj:a'.tmps.getD j undef= .pointer (some ⟨b,0,none⟩):=en.2.2.2 j _ (by show(vals.take np)[j]? =_;rw[List.getElem?_take,if_pos (by omega)];exact hvalj)
   have hBj:gh'.B j=b:=by
    rw[hpj]at hvj
    have:=hvj.2
    simp at this
    exact this.symm
   obtain⟨vs1,e1,g1,g2,g3⟩:=m.box j cs z4
   rw[hBj]at g1
   have hro:own=true-> ∀(i:Nat) (x:Cl),cs[i]? =some x->Bs x.sh=true->H4 x.tok=true:=fun hoo i x hx hs=>by
    subst hoo
    cases pinned with
    |true=>rw[Fb z5 i x hx hs];rfl
    |false=>exact F6 z5 i x hx hs
   have hval: ∃v,(results fn a'.tmps).run P w'= .ok v w'/\(own=true-> ∃f,Ai f w'/\f.from_ w.heap.size/\D9 (l.map strip) v f)/\(own=false-> ∃G':Ad,Bt G' w'/\G.sub G'/\(∀c o x,G' c o=some x->G c o=some x\/w.heap.size<=c)/\Gz G' (l.map strip) v/\RVs G' (strip (true,cs)).2 vs1):=by
    cases own with
    |true=>
     obtain⟨ate,hgv,hea⟩:=Ab hgv1
     obtain⟨vs,f1,f2,k1,k2,k3,k4,k5,k6,k7⟩:=hfin (m:=[]) (us:=[]) m en hl trivial (by simpa using hgv) hea
     refine⟨_,k1,fun _=>⟨f1,k2,fun c o hc=>?_,Pv k6⟩,fun h=>by cases h⟩
     rcases(k5 c o (.inl hc)).1 with q|q
     .exact q
     .exfalso
      have hq:(Aa.one b (.cells vs0.toArray e0 (0,0)) c).isSome=true:=q
      simp only[Aa.one]at hq
      split at hq
      .rename_i hcb
       exact(k5 c o (.inl hc)).2 j (B5 z4) (by rw[hBj,hcb])
      .cases hq
    |false=>
     obtain⟨vs,h1,h2⟩:=Hz hC m en hl
     refine⟨_,Oe h1,fun h=>(by cases h),fun _=>⟨gh'.G,m.lies,m.g0,fun c o x hx=>?_,U4 h2.rva,g3.rvs⟩⟩
     rcases m.new c o x hx with q|q|q
     .exact .inl q
     .exact .inr q
     .exfalso
      have hq:(Aa.one b (.cells vs0.toArray e0 (0,0)) c).isSome=true:=q
      simp only[Aa.one]at hq
      split at hq
      .rename_i hcb
       have:=m.boxG j o (B5 z4)
       rw[hBj,<-hcb,hx]at this;cases this
      .cases hq
   obtain⟨v,hv1,hv2,hv3⟩:=hval
   refine⟨en.2.1,v,hv1,v,vs1,e1,true,_,rfl,m.moved,hv2,hv3,g1,rfl,fun hoo=>U5 (cx:=cx) g3 (hro hoo),fun hp i s hs hsl=>?_⟩
   .subst hp
    have hs:(cs.map fun c=>(⟨c.sh,c.val⟩:Sg))[i]? =some s:=hs
    rw[List.getElem?_map]at hs
    cases hx:cs[i]? with
    |none=>rw[hx]at hs;cases hs
    |some x=>
     rw[hx]at hs
     simp at hs;subst hs
     have ht:=Fb z5 i x hx hsl
     rw[Nat.zero_add]at ht
     obtain⟨v,hv,hcr⟩:=g3.get hx
     rw[hv]
     obtain⟨_,hcr⟩:=hcr
     rw[ht]at hcr
     obtain⟨r1,r2⟩:=hcr
     have r2':v=vs0.getD i undef:=r2
     cases h0:vs0[i]? with
     |some u=>rw[r2',List.getD_eq_getElem?_getD,h0];rfl
     |none=>
      exfalso
      rw[List.getD_eq_getElem?_getD,h0]at r2'
      simp at r2'
      obtain⟨sh,val,tok⟩:=x
      simp only at hsl
      cases sh with
      |sl e cs'=>
       simp only[RdD]at r1
       obtain⟨ad,cap,hvv,_⟩:=r1
       rw[r2']at hvv
       simp[undef]at hvv
      |_=>cases hsl
  cases e with
  |exit i=>simp at hr
  |normal=>obtain⟨l,hl,hr⟩:=Ab hr;exact fin l hl hr
  |ret=>obtain⟨l,hl,hr⟩:=Ab hr;exact fin l hl hr
end
end
section
noncomputable section

def J7 (N:St->St):Prop:=∀cx gh st a w nt,RM cx gh st w->Env nt cx gh st a-> ∃gh',RM cx gh' (N st) w/\Env nt cx gh' (N st) a
theorem J7.comp {N M:St->St} (hN:J7 N) (hM:J7 M):J7 fun st=>M (N st):=fun cx gh st a w nt m e=>by
 obtain⟨g1,m1,e1⟩:=hN cx gh st a w nt m e
 exact hM cx g1 (N st) a w nt m1 e1
def Fc (x:Cl):Cl:=match x.tok with
 | .elt _ _ _ _ _ _ _=>⟨x.sh,x.val,C9 x.sh .rd⟩
 | .one _ i t=>⟨x.sh,x.val,.bag t (i+1)⟩
 | .prt _ _ _ _ _=>⟨x.sh,x.val,C9 x.sh .rd⟩
 |_=>x
def Rb:PV->PV
 | .v a xs=>.v a (xs.map Fc)
 | .box b o=>.box b o
 |_=>.any
def Zb (keep:List Nat) (st:St):St:={st with env:=keep.map fun i=>(i,Rb (st.get i))}
theorem Aag {cx:Cx} {g:Gh} {st:St} {x:Cl} {v:Value} (h:CR cx g st x v):CR cx g st (Fc x) v:=by
 obtain⟨sh,val,tok⟩:=x
 cases tok with
 |elt t e cs l i d j=>
  refine⟨h.1,?_⟩
  cases sh<;>first|trivial|(intro _ _ e;cases e)
 |one s i t=>exact⟨h.1,h.2.1,h.2.2.1⟩
 |prt t e cs l lo=>
  refine⟨h.1,?_⟩
  cases sh<;>first|trivial|(intro _ _ e;cases e)
 |_=>exact h
theorem Ib {cx:Cx} {g:Gh} {st:St}: ∀ {xs:List Cl} {vs:List Value},CRs cx g st xs vs->CRs cx g st (xs.map Fc) vs
 |[],[],_=>trivial
 |x::xs,v::vs,h=>⟨Aag h.1,Ib h.2⟩
 |[],_::_,h=>h.elim
 |_::_,[],h=>h.elim
theorem Aah {cx:Cx} {g:Gh} {st:St} {p:PV} {v:Value} (h:VR cx g st p v):VR cx g st (Rb p) v:=by
 cases p with
 |any=>trivial
 |v a xs=>cases a with
  |true=>obtain⟨vs,e,h⟩:=h;exact⟨vs,e,Ib h⟩
  |false=>exact Ib (xs:=xs) (vs:=[v]) h
 |box b o=>exact h
 |el _ _ _=>trivial
 |tup _=>trivial
theorem U7 (f:Nat->PV): ∀(keep:List Nat) (i:Nat),look i (keep.map fun i=>(i,f i))=f i\/look i (keep.map fun i=>(i,f i))= .any
 |[],i=>.inr rfl
 |j::r,i=>by
  simp only[List.map_cons]
  rw[Cd]
  by_cases h:i=j
  .subst h;rw[if_pos rfl];exact .inl rfl
  .rw[if_neg h];exact U7 f r i
theorem Of (g:Gh) (st:St) (env:List (Nat×PV)):Ext g st g {st with env:=env}:=⟨fun _ _ _ h=>h,fun _ _=>rfl,fun _ h=>h,fun _ h=>h,fun t h _=>⟨h,rfl,rfl,rfl,fun _ _ _=>rfl⟩⟩
theorem RM.env {cx:Cx} {w:World} {g:Gh} {st:St} (m:RM cx g st w) (env:List (Nat×PV)):RM cx g {st with env:=env} w:=
 ⟨m.moved,m.lies,m.g0,m.old,fun k cs hk=>let ⟨vs,e,h1,h2,h3⟩:=m.box k cs hk;⟨vs,e,h1,h2,h3.ext (Of g st env)⟩,m.inj,m.boxG,m.tok,m.apart,m.tokBox,m.nodup,m.new⟩
theorem Zc (keep:List Nat):J7 (Zb keep):=fun cx gh st a w nt m e=>by
 refine⟨gh,m.env _,e.1,e.2.1,fun i=>?_,e.2.2.2⟩
 have:(Zb keep st).get i=look i (keep.map fun i=>(i,Rb (st.get i))):=rfl
 rw[this]
 rcases U7 (fun i=>Rb (st.get i)) keep i with h|h
 .rw[h];exact(Aah (e.2.2.1 i)).ext (Of gh st _)
 .rw[h];trivial
def pos (t:Nat):List Nat->Option Nat
 |[]=>none
 |u::r=>cond (Nat.beq t u) (some 0) (match pos t r with|some n=>some (n+1)|none=>none)
theorem L7 {t:Nat}: ∀ {l:List Nat} {n:Nat},pos t l=some n->l[n]? =some t
 |[],n,h=>by simp[pos]at h
 |u::r,n,h=>by
  unfold pos at h
  cases hb:Nat.beq t u with
  |true=>
   rw[hb]at h;simp at h;subst h
   rw[Nat.eq_of_beq_eq_true hb];rfl
  |false=>
   rw[hb]at h
   simp only[cond_false]at h
   split at h
   .rename_i m hm
    simp at h;subst h
    simpa using L7 hm
   .cases h
def G6 (l:List Nat) (t:Nat):List Nat:=cond (l.contains t) l (l++[t])
theorem Ja {l:List Nat} {t:Nat} (h:l.Nodup):(G6 l t).Nodup:=by
 unfold G6
 cases hc:l.contains t with
 |true=>exact h
 |false=>
  have hn:t∉l:=fun hm=>by rw[List.contains_iff_mem.2 hm]at hc;cases hc
  simp only[cond_false]
  exact List.nodup_append.2 ⟨h,List.pairwise_singleton _ _,fun x hx y hy=>by simp at hy;subst hy;exact fun e=>hn (e▸hx)⟩
def Em:List Nat->List (Nat×PV)->List Nat
 |acc,[]=>acc
 |acc,(_,.box b _)::r=>Em (G6 acc b) r
 |acc,_::r=>Em acc r
def G7 (st:St):List Nat->List (Nat×List Cl)
 |[]=>[]
 |k::r=>match st.bx k with|some cs=>(k,cs.map Fc)::G7 st r|none=>G7 st r
def Fy (st:St):St:={st with boxes:=G7 st (Em [] st.env)}
theorem Rc {l:List Nat} {t u:Nat} (h:u∈l\/u=t):u∈G6 l t:=by
 unfold G6
 cases hc:l.contains t with
 |true=>
  rcases h with h|h
  .exact h
  .subst h;exact List.contains_iff_mem.1 hc
 |false=>
  simp only[cond_false];rcases h with h|h
  .exact List.mem_append.2 (.inl h)
  .subst h;simp
theorem O2: ∀ {e:List (Nat×PV)} {acc:List Nat} {b:Nat},(b∈acc->b∈Em acc e)/\ ∀i o,look i e= .box b o->b∈Em acc e
 |[],acc,b=>⟨fun h=>h,fun i o h=>by simp[look]at h⟩
 |(j,x)::r,acc,b=>by
  have key: ∀acc',(b∈acc->b∈acc')->(∀o,x= .box b o->b∈acc')->(b∈acc->b∈Em acc' r)/\ ∀i o,look i ((j,x)::r)= .box b o->b∈Em acc' r:=fun acc' h1 h2=>by
   have ih:=O2 (e:=r) (acc:=acc') (b:=b)
   refine⟨fun h=>ih.1 (h1 h),fun i o h=>?_⟩
   rw[Cd]at h
   split at h
   .exact ih.1 (h2 o h)
   .exact ih.2 i o h
  cases x with
  |box b' o'=>exact key (G6 acc b') (fun h=>Rc (.inl h)) (fun o h=>by cases h;exact Rc (.inr rfl))
  |any=>exact key acc (fun h=>h) (fun o h=>by cases h)
  |v a xs=>exact key acc (fun h=>h) (fun o h=>by cases h)
  |el _ _ xs=>exact key acc (fun h=>h) (fun o h=>by cases h)
  |tup l=>exact key acc (fun h=>h) (fun o h=>by cases h)
theorem L8 (st:St): ∀(l:List Nat) (i:Nat),(Aq i (G7 st l)=(st.bx i).map (fun cs=>cs.map Fc)\/Aq i (G7 st l)=none)/\(i∈l->Aq i (G7 st l)=(st.bx i).map fun cs=>cs.map Fc)
 |[],i=>⟨.inr rfl,fun h=>by cases h⟩
 |k::r,i=>by
  have ih:=L8 st r i
  unfold G7
  cases hk:st.bx k with
  |none=>
   simp only
   refine⟨ih.1,fun hm=>?_⟩
   rcases List.mem_cons.1 hm with e|hm'
   .subst e
    rcases ih.1 with h|h
    .exact h
    .rw[h,hk];rfl
   .exact ih.2 hm'
  |some cs=>
   simp only
   have hl:Aq i ((k,cs.map Fc)::G7 st r)=if i=k then some (cs.map Fc)else Aq i (G7 st r):=by
    show cond (Nat.beq i k) (some (cs.map Fc)) (Aq i (G7 st r))=_
    by_cases h:i=k
    .subst h;simp
    .have:Nat.beq i k=false:=by
      cases hb:Nat.beq i k with
      |false=>rfl
      |true=>exact(h (Nat.eq_of_beq_eq_true hb)).elim
     simp[h,this]
   rw[hl]
   by_cases h:i=k
   .subst h;rw[if_pos rfl,hk];exact⟨.inl rfl,fun _=>rfl⟩
   .rw[if_neg h]
    exact⟨ih.1,fun hm=>ih.2 ((List.mem_cons.1 hm).resolve_left h)⟩
theorem Zd:J7 Fy:=fun cx gh st a w nt m e=>by
 have hbx: ∀ {k:Nat} {cs:List Cl},(Fy st).bx k=some cs-> ∃c0,st.bx k=some c0/\cs=c0.map Fc:=fun {k cs} h=>by
  have h':Aq k (G7 st (Em [] st.env))=some cs:=h
  rcases(L8 st (Em [] st.env) k).1 with q|q
  .rw[q]at h'
   cases hb:st.bx k with
   |none=>rw[hb]at h';cases h'
   |some c0=>rw[hb]at h';simp at h';exact⟨c0,rfl,h'.symm⟩
  .rw[q]at h';cases h'
 have hhas: ∀ {k:Nat},(Fy st).has k=true->st.has k=true:=fun {k} h=>by
  obtain⟨cs,hcs⟩:=Bw h
  obtain⟨c0,h0,_⟩:=hbx hcs
  exact B5 h0
 have hcr: ∀ {x:Cl} {v:Value},CR cx gh st x v->CR cx gh (Fy st) x v:=fun {x v} h=>h
 have hcrs: ∀ {xs:List Cl} {vs:List Value},CRs cx gh st xs vs->CRs cx gh (Fy st) xs vs:=by
  intro xs
  induction xs with
  |nil=>intro vs h;cases vs with|nil=>trivial|cons _ _=>exact h.elim
  |cons x xs ih=>intro vs h;cases vs with|nil=>exact h.elim|cons v vs=>exact⟨hcr h.1,ih h.2⟩
 have hvv: ∀ {b:Bool} {xs:List Cl} {v:Value},VRv cx gh st b xs v->VRv cx gh (Fy st) b xs v:=fun {b xs v} h=>by
  cases b with
  |true=>obtain⟨vs,e,h⟩:=h;exact⟨vs,e,hcrs h⟩
  |false=>exact hcrs (xs:=xs) (vs:=[v]) h
 have hvt: ∀ {l:List (Bool×List Cl)} {vs:List Value},VRt cx gh st l vs->VRt cx gh (Fy st) l vs:=by
  intro l
  induction l with
  |nil=>intro vs h;cases vs with|nil=>trivial|cons _ _=>exact h.elim
  |cons x xs ih=>intro vs h;cases vs with|nil=>exact h.elim|cons v vs=>exact⟨hvv h.1,ih h.2⟩
 have hel: ∀ {ro:Bool} {xs:List Cl} {b o:Nat},ElR cx gh st ro xs b o->ElR cx gh (Fy st) ro xs b o:=by
  intro ro xs
  induction xs with
  |nil=>intro b o h;trivial
  |cons x xs ih=>intro b o h;obtain⟨⟨u,h1,h2⟩,h3⟩:=h;exact⟨⟨u,h1,hcr h2⟩,ih h3⟩
 refine⟨gh,⟨m.moved,m.lies,m.g0,m.old,fun k cs hk=>?_,fun i j hi hj=>m.inj i j (hhas hi) (hhas hj),fun k o hk=>m.boxG k o (hhas hk),m.tok,m.apart,fun t k ht hk=>m.tokBox t k ht (hhas hk),m.nodup,m.new⟩,e.1,e.2.1,fun i=>?_,e.2.2.2⟩
 .obtain⟨c0,h0,rfl⟩:=hbx hk
  obtain⟨vs,e',h1,h2,h3⟩:=m.box k c0 h0
  exact⟨vs,e',h1,h2,hcrs (Ib h3)⟩
 .have:(Fy st).get i=st.get i:=rfl
  rw[this]
  have hv:=e.2.2.1 i
  cases hg:st.get i with
  |any=>trivial
  |v b xs=>rw[hg]at hv;exact hvv hv
  |box b o=>
   rw[hg]at hv
   refine⟨?_,hv.2⟩
   have hm:=(O2 (e:=st.env) (acc:=[]) (b:=b)).2 i o hg
   have h2:(Fy st).bx b=(st.bx b).map fun cs=>cs.map Fc:=(L8 st (Em [] st.env) b).2 hm
   show((Fy st).bx b).isSome=true
   obtain⟨c0,h0⟩:=Bw hv.1
   rw[h2,h0];rfl
  |el p ro xs=>rw[hg]at hv;obtain⟨b,o,e',h1,h2⟩:=hv;exact⟨b,o,e',hel h1,h2⟩
  |tup l=>rw[hg]at hv;obtain⟨vs,e',hv⟩:=hv;exact⟨vs,e',hvt hv⟩
def Ar (n:Nat):List Cl->List Cl×Nat
 |[]=>([],n)
 |⟨.sl e cs,d,.nil⟩::r=>let x:=Ar (n+1) r;(⟨.sl e cs,d,.own n⟩::x.1,x.2)
 |x::r=>let y:=Ar n r;(x::y.1,y.2)
def Bl (n:Nat):List (Nat×PV)->List (Nat×PV)×Nat
 |[]=>([],n)
 |(i,.v a xs)::r=>let x:=Ar n xs;let y:=Bl x.2 r;((i,.v a x.1)::y.1,y.2)
 |p::r=>let y:=Bl n r;(p::y.1,y.2)
def C0 (n:Nat):List (Nat×List Cl)->List (Nat×List Cl)×Nat
 |[]=>([],n)
 |(k,xs)::r=>let x:=Ar n xs;let y:=C0 x.2 r;((k,x.1)::y.1,y.2)
theorem F7: ∀(n:Nat) (xs:List Cl),n<=(Ar n xs).2
 |n,[]=>Nat.le_refl _
 |n,x::r=>by
  unfold Ar
  split
  .rename_i h;cases h
  .rename_i h;cases h;exact Nat.le_trans (Nat.le_succ n) (F7 (n+1) _)
  .rename_i h;cases h;exact F7 n _
theorem Hn: ∀(n:Nat) (e:List (Nat×PV)),n<=(Bl n e).2
 |n,[]=>Nat.le_refl _
 |n,(i,.v a xs)::r=>Nat.le_trans (F7 n xs) (Hn _ r)
 |n,(i,.any)::r=>Hn n r
 |n,(i,.box _ _)::r=>Hn n r
 |n,(i,.el _ _ _)::r=>Hn n r
 |n,(i,.tup _)::r=>Hn n r
theorem R5: ∀(n:Nat) (e:List (Nat×List Cl)),n<=(C0 n e).2
 |n,[]=>Nat.le_refl _
 |n,(k,xs)::r=>Nat.le_trans (F7 n xs) (R5 _ r)
theorem Jb {cx:Cx} {w:World}: ∀ {xs:List Cl} {vs:List Value} {g:Gh} {st:St} {n:Nat},RM cx g st w->CRs cx g st xs vs->(∀t,n<=t->t<(Ar n xs).2->t∉st.used)->
  ∃g',RM cx g' (more st n ((Ar n xs).2-n)) w/\Ext g st g' (more st n ((Ar n xs).2-n))/\g'.B=g.B/\CRs cx g' (more st n ((Ar n xs).2-n)) (Ar n xs).1 vs
 |[],[],g,st,n,hM,_,_=>by
  have:more st n ((Ar n []).2-n)=st:=by simp[Ar,Hx]
  rw[this]
  exact⟨g,hM,Ext.refl _ _,rfl,trivial⟩
 |x::xs,v::vs,g,st,n,hM,hc,hu=>by
  by_cases hx: ∃e cs d,x=⟨.sl e cs,d,.nil⟩
  .obtain⟨e,cs,d,rfl⟩:=hx
   have hd:Ar n (⟨.sl e cs,d,.nil⟩::xs)=(⟨.sl e cs,d,.own n⟩::(Ar (n+1) xs).1,(Ar (n+1) xs).2):=rfl
   rw[hd]at hu ⊢
   have hge:=F7 (n+1) xs
   simp only at hu ⊢
   have hst:more st n ((Ar (n+1) xs).2-n)=more {st with live:=n::st.live,used:=n::st.used} (n+1) ((Ar (n+1) xs).2-(n+1)):=by
    rw[show(Ar (n+1) xs).2-n=((Ar (n+1) xs).2-(n+1))+1 by omega];exact Sv st n _
   rw[hst]
   obtain⟨⟨h1,h2⟩,h3⟩:=hc
   obtain⟨a,ha⟩:=h2 e cs rfl
   have hO:Af Aa.emp (.sl e cs) d v:=Kg h1 (fun _ _ _=>⟨a,ha⟩)
   obtain⟨g1,M1,E1,C1,B1,_⟩:=N9 hM (hu n (Nat.le_refl _) (by omega)) (live':=st.live) (fun _ h=>h) hM.nodup (Ai.emp w) (s:=.sl e cs) (hsl:=rfl) (hf:=fun b o hb=>by cases hb) (hO:=hO) (hr:=fun b m cap hv hc=>by rw[ha]at hv;cases hv;omega)
   obtain⟨g2,M2,E2,B2,C2⟩:=Jb (n:=n+1) M1 (h3.ext E1) (fun t t1 t2 hm=>by
    rcases List.mem_cons.1 hm with q|q
    .omega
    .exact hu t (by omega) t2 q)
   exact⟨g2,M2,E1.trans E2,B2.trans B1,C1.ext E2,C2⟩
  .have hd:Ar n (x::xs)=(x::(Ar n xs).1,(Ar n xs).2):=by
    rw[Ar.eq_def]
    split
    .rename_i h;cases h
    .rename_i h;cases h;exact(hx ⟨_,_,_,rfl⟩).elim
    .rename_i h;cases h;rfl
   rw[hd]at hu ⊢
   obtain⟨g2,M2,E2,B2,C2⟩:=Jb (n:=n) hM hc.2 hu
   exact⟨g2,M2,E2,B2,hc.1.ext E2,C2⟩
 |[],_::_,_,_,_,_,h,_=>h.elim
 |_::_,[],_,_,_,_,h,_=>h.elim
theorem R6 {cx:Cx} {w:World} (val:Nat->Value): ∀ {env:List (Nat×PV)} {g:Gh} {st:St} {n:Nat},(env.map fun p=>p.1).Nodup->RM cx g st w->(∀p,p∈env->VR cx g st p.2 (val p.1))->(∀t,n<=t->t<(Bl n env).2->t∉st.used)->
  ∃g',RM cx g' (more st n ((Bl n env).2-n)) w/\Ext g st g' (more st n ((Bl n env).2-n))/\g'.B=g.B/\ ∀p,p∈(Bl n env).1->VR cx g' (more st n ((Bl n env).2-n)) p.2 (val p.1)
 |[],g,st,n,_,hM,_,_=>by
  have:more st n ((Bl n []).2-n)=st:=by simp[Bl,Hx]
  rw[this]
  exact⟨g,hM,Ext.refl _ _,rfl,fun p hp=>by cases hp⟩
 |(i,p)::r,g,st,n,hn,hM,hv,hu=>by
  have hn2:=(List.nodup_cons.1 hn).2
  have skip:Bl n ((i,p)::r)=((i,p)::(Bl n r).1,(Bl n r).2)-> ∃g',RM cx g' (more st n ((Bl n ((i,p)::r)).2-n)) w/\Ext g st g' (more st n ((Bl n ((i,p)::r)).2-n))/\g'.B=g.B/\ ∀q,q∈(Bl n ((i,p)::r)).1->VR cx g' (more st n ((Bl n ((i,p)::r)).2-n)) q.2 (val q.1):=fun hd=>by
   rw[hd]at hu ⊢
   obtain⟨g2,M2,E2,B2,C2⟩:=R6 val (n:=n) hn2 hM (fun q hq=>hv q (by simp[hq])) hu
   refine⟨g2,M2,E2,B2,fun q hq=>?_⟩
   rcases List.mem_cons.1 hq with e|hq
   .subst e;exact(hv (i,p) (by simp)).ext E2
   .exact C2 q hq
  cases p with
  |v a xs=>
   have hd:Bl n ((i,.v a xs)::r)=((i,.v a (Ar n xs).1)::(Bl (Ar n xs).2 r).1,(Bl (Ar n xs).2 r).2):=rfl
   rw[hd]at hu ⊢
   simp only at hu ⊢
   have g1:=F7 n xs
   have g2:=Hn (Ar n xs).2 r
   have h0:=hv (i,.v a xs) (by simp)
   have key: ∃g',RM cx g' (more st n ((Ar n xs).2-n)) w/\Ext g st g' (more st n ((Ar n xs).2-n))/\g'.B=g.B/\VRv cx g' (more st n ((Ar n xs).2-n)) a (Ar n xs).1 (val i):=by
    cases a with
    |true=>
     obtain⟨vs,e,h0⟩:=h0
     obtain⟨g',M1,E1,B1,C1⟩:=Jb (n:=n) hM h0 (fun t t1 t2=>hu t t1 (by omega))
     exact⟨g',M1,E1,B1,vs,e,C1⟩
    |false=>exact Jb (n:=n) (vs:=[val i]) hM h0 (fun t t1 t2=>hu t t1 (by omega))
   obtain⟨g',M1,E1,B1,C1⟩:=key
   have hst:more (more st n ((Ar n xs).2-n)) (Ar n xs).2 ((Bl (Ar n xs).2 r).2-(Ar n xs).2)=more st n ((Bl (Ar n xs).2 r).2-n):=by
    have:=Jm st n ((Ar n xs).2-n) ((Bl (Ar n xs).2 r).2-(Ar n xs).2)
    rw[show n+((Ar n xs).2-n)=(Ar n xs).2 by omega]at this
    rw[this];congr 1;omega
   obtain⟨g3,M3,E3,B3,C3⟩:=R6 val (n:=(Ar n xs).2) hn2 M1 (fun q hq=>(hv q (by simp[hq])).ext E1) (fun t t1 t2 hm=>by
    rcases List.mem_append.1 hm with hm|hm
    .have:=List.mem_range'_1.1 (List.mem_reverse.1 hm);omega
    .exact hu t (by omega) t2 hm)
   rw[hst]at M3 E3 C3
   refine⟨g3,M3,E1.trans E3,B3.trans B1,fun q hq=>?_⟩
   rcases List.mem_cons.1 hq with e|hq
   .subst e;exact VRv.ext E3 C1
   .exact C3 q hq
  |any=>exact skip rfl
  |box _ _=>exact skip rfl
  |el _ _ _=>exact skip rfl
  |tup _=>exact skip rfl
theorem Wy {cx:Cx} {w:World}: ∀ {L:List (Nat×List Cl)} {g:Gh} {st:St} {n:Nat},RM cx g st w->(∀p,p∈L-> ∃(vs:List Value) (e:TypeId),w.heap[g.B p.1]? =some (.cells vs.toArray e (0,0))/\CRs cx g st p.2 vs)->(∀t,n<=t->t<(C0 n L).2->t∉st.used)->
  ∃g',RM cx g' (more st n ((C0 n L).2-n)) w/\Ext g st g' (more st n ((C0 n L).2-n))/\g'.B=g.B/\ ∀p,p∈(C0 n L).1-> ∃(vs:List Value) (e:TypeId),w.heap[g'.B p.1]? =some (.cells vs.toArray e (0,0))/\CRs cx g' (more st n ((C0 n L).2-n)) p.2 vs
 |[],g,st,n,hM,_,_=>by
  have:more st n ((C0 n []).2-n)=st:=by simp[C0,Hx]
  rw[this]
  exact⟨g,hM,Ext.refl _ _,rfl,fun p hp=>by cases hp⟩
 |(k,xs)::r,g,st,n,hM,hv,hu=>by
  have hd:C0 n ((k,xs)::r)=((k,(Ar n xs).1)::(C0 (Ar n xs).2 r).1,(C0 (Ar n xs).2 r).2):=rfl
  rw[hd]at hu ⊢
  simp only at hu ⊢
  have g1:=F7 n xs
  have g2:=R5 (Ar n xs).2 r
  obtain⟨vs,e,h0,h1'⟩:=hv (k,xs) (by simp)
  have h1:CRs cx g st xs vs:=h1'
  obtain⟨g',M1,E1,B1,C1⟩:=Jb (n:=n) hM h1 (fun t t1 t2=>hu t t1 (by omega))
  have hst:more (more st n ((Ar n xs).2-n)) (Ar n xs).2 ((C0 (Ar n xs).2 r).2-(Ar n xs).2)=more st n ((C0 (Ar n xs).2 r).2-n):=by
   have:=Jm st n ((Ar n xs).2-n) ((C0 (Ar n xs).2 r).2-(Ar n xs).2)
   rw[show n+((Ar n xs).2-n)=(Ar n xs).2 by omega]at this
   rw[this];congr 1;omega
  obtain⟨g3,M3,E3,B3,C3⟩:=Wy (L:=r) (n:=(Ar n xs).2) M1 (fun q hq=>by
   obtain⟨us,e',k1,k2⟩:=hv q (by simp[hq])
   exact⟨us,e',by rw[B1];exact k1,k2.ext E1⟩) (fun t t1 t2 hm=>by
   rcases List.mem_append.1 hm with hm|hm
   .have:=List.mem_range'_1.1 (List.mem_reverse.1 hm);omega
   .exact hu t (by omega) t2 hm)
  rw[hst]at M3 E3 C3
  refine⟨g3,M3,E1.trans E3,B3.trans B1,fun q hq=>?_⟩
  rcases List.mem_cons.1 hq with e'|hq
  .subst e'
   exact⟨vs,e,by rw[B3,B1];exact h0,C1.ext E3⟩
  .exact C3 q hq
end
end
section
noncomputable section

theorem U8: ∀ {e:List (Nat×PV)} {i:Nat},look i e= .any\/(i,look i e)∈e
 |[],i=>.inl rfl
 |(j,x)::r,i=>by
  rw[Cd]
  by_cases h:i=j
  .subst h;rw[if_pos rfl];right;simp
  .rw[if_neg h]
   rcases U8 (e:=r) (i:=i)with q|q
   .exact .inl q
   .exact .inr (List.mem_cons_of_mem _ q)
theorem O3: ∀ {e:List (Nat×PV)} {p:Nat×PV},(e.map fun p=>p.1).Nodup->p∈e->look p.1 e=p.2
 |(j,x)::r,p,hn,h=>by
  simp only[List.map_cons]at hn
  have hn':=List.nodup_cons.1 hn
  rw[Cd]
  rcases List.mem_cons.1 h with e|h
  .subst e;simp
  .rw[if_neg (fun e=>hn'.1 (by rw[<-e];exact List.mem_map.2 ⟨p,h,rfl⟩))]
   exact O3 hn'.2 h
theorem G8 (i k:Nat) (xs:List Cl) (r:List (Nat×List Cl)):Aq i ((k,xs)::r)=if i=k then some xs else Aq i r:=by
 show cond (Nat.beq i k) (some xs) (Aq i r)=_
 by_cases h:i=k
 .subst h;simp
 .have:Nat.beq i k=false:=by
   cases hb:Nat.beq i k with
   |false=>rfl
   |true=>exact(h (Nat.eq_of_beq_eq_true hb)).elim
  simp[h,this]
theorem S7: ∀ {L:List (Nat×List Cl)} {i:Nat} {cs:List Cl},Aq i L=some cs->(i,cs)∈L
 |[],i,cs,h=>by cases h
 |(k,xs)::r,i,cs,h=>by
  rw[G8]at h
  split at h
  .rename_i e;simp at h;subst e;subst h;simp
  .exact List.mem_cons_of_mem _ (S7 h)
theorem Ns: ∀ {L:List (Nat×List Cl)} {p:Nat×List Cl},(L.map fun p=>p.1).Nodup->p∈L->Aq p.1 L=some p.2
 |(k,xs)::r,p,hn,h=>by
  simp only[List.map_cons]at hn
  have hn':=List.nodup_cons.1 hn
  rw[G8]
  rcases List.mem_cons.1 h with e|h
  .subst e;simp
  .rw[if_neg (fun e=>hn'.1 (by rw[<-e];exact List.mem_map.2 ⟨p,h,rfl⟩))]
   exact Ns hn'.2 h
theorem RM.reBox {cx:Cx} {w:World} {g:Gh} {st:St} (m:RM cx g st w) {bs:List (Nat×List Cl)} (h: ∀k cs,Aq k bs=some cs->st.has k=true/\ ∃(vs:List Value) (e:TypeId),w.heap[g.B k]? =some (.cells vs.toArray e (0,0))/\CRs cx g st cs vs)
  (hh: ∀k,st.has k=true->(Aq k bs).isSome=true):RM cx g {st with boxes:=bs} w/\Ext g st g {st with boxes:=bs}:=by
 have hE:Ext g st g {st with boxes:=bs}:=⟨fun _ _ _ h=>h,fun _ _=>rfl,fun k hk=>hh k hk,fun _ h=>h,fun t ht _=>⟨ht,rfl,rfl,rfl,fun _ _ _=>rfl⟩⟩
 have hs: ∀k,({st with boxes:=bs}:St).has k=true->st.has k=true:=fun k hk=>by
  obtain⟨cs,hcs⟩:=Bw hk
  exact(h k cs hcs).1
 refine⟨⟨m.moved,m.lies,m.g0,m.old,fun k cs hk=>?_,fun i j hi hj=>m.inj i j (hs i hi) (hs j hj),fun k o hk=>m.boxG k o (hs k hk),m.tok,m.apart,fun t k ht hk=>m.tokBox t k ht (hs k hk),m.nodup,m.new⟩,hE⟩
 obtain⟨h1,vs,e,h2,h3⟩:=h k cs hk
 obtain⟨c0,hc0⟩:=Bw h1
 obtain⟨_,_,_,hm,_⟩:=m.box k c0 hc0
 exact⟨vs,e,h2,hm,h3.ext hE⟩
def U9 (n:Nat) (st:St):St:=
 let x:=Bl n st.env
 let y:=C0 x.2 st.boxes
 cond (Gx (st.env.map fun p=>p.1) && Gx (st.boxes.map fun p=>p.1) && (List.range' n (y.2-n)).all fun t=> !st.used.contains t)
  {env:=x.1,boxes:=y.1,live:=(List.range' n (y.2-n)).reverse++st.live,used:=(List.range' n (y.2-n)).reverse++st.used} st
theorem Nt: ∀ {n:Nat} {L:List (Nat×List Cl)},((C0 n L).1.map fun p=>p.1)=L.map fun p=>p.1
 |n,[]=>rfl
 |n,(k,xs)::r=>by
  show k::((C0 (Ar n xs).2 r).1.map fun p=>p.1)=_
  rw[Nt];rfl
theorem Jr: ∀ {L:List (Nat×List Cl)} {i:Nat},(Aq i L).isSome=true↔i∈L.map fun p=>p.1
 |[],i=>by simp[Aq]
 |(k,xs)::r,i=>by
  rw[G8]
  by_cases h:i=k
  .subst h;simp
  .rw[if_neg h];simp only[List.map_cons,List.mem_cons,h,false_or];exact Jr
theorem V9 (n:Nat):J7 (U9 n):=fun cx gh st a w nt m e=>by
 unfold U9
 simp only
 cases hc:(Gx (st.env.map fun p=>p.1) && Gx (st.boxes.map fun p=>p.1) && (List.range' n ((C0 (Bl n st.env).2 st.boxes).2-n)).all fun t=> !st.used.contains t)with
 |false=>exact⟨gh,m,e⟩
 |true=>
  simp only[Bool.and_eq_true]at hc
  obtain⟨⟨h1,h2⟩,h3⟩:=hc
  have h1:=Jp h1
  have h2:=Jp h2
  have g1:=Hn n st.env
  have g2:=R5 (Bl n st.env).2 st.boxes
  have hu: ∀t,n<=t->t<(C0 (Bl n st.env).2 st.boxes).2->t∉st.used:=fun t t1 t2=>by
   have:=(List.all_eq_true.1 h3) t (List.mem_range'_1.2 ⟨t1,by omega⟩)
   simpa using this
  obtain⟨gh1,M1,E1,B1,C1⟩:=R6 (fun i=>a.tmps.getD i undef) (n:=n) h1 m (fun p hp=>by rw[<-O3 h1 hp];exact e.2.2.1 p.1) (fun t t1 t2=>hu t t1 (by omega))
  have hst:more (more st n ((Bl n st.env).2-n)) (Bl n st.env).2 ((C0 (Bl n st.env).2 st.boxes).2-(Bl n st.env).2)=more st n ((C0 (Bl n st.env).2 st.boxes).2-n):=by
   have:=Jm st n ((Bl n st.env).2-n) ((C0 (Bl n st.env).2 st.boxes).2-(Bl n st.env).2)
   rw[show n+((Bl n st.env).2-n)=(Bl n st.env).2 by omega]at this
   rw[this];congr 1;omega
  obtain⟨gh2,M2,E2,B2,C2⟩:=Wy (L:=st.boxes) (n:=(Bl n st.env).2) M1 (fun p hp=>by
   obtain⟨vs,ty,k1,k2,k3⟩:=m.box p.1 p.2 (Ns h2 hp)
   exact⟨vs,ty,by rw[B1];exact k1,k3.ext E1⟩) (fun t t1 t2 hm=>by
   rcases List.mem_append.1 hm with q|q
   .have:=List.mem_range'_1.1 (List.mem_reverse.1 q);omega
   .exact hu t (by omega) t2 q)
  rw[hst]at M2 E2 C2
  obtain⟨M3,E3⟩:=M2.reBox (bs:=(C0 (Bl n st.env).2 st.boxes).1) (fun k cs hk=>by
   refine⟨?_,C2 (k,cs) (S7 hk)⟩
   show(Aq k st.boxes).isSome=true
   rw[Jr,<-Nt (n:=(Bl n st.env).2),<-Jr,hk];rfl) (fun k hk=>by
   have hk':(Aq k st.boxes).isSome=true:=hk
   rw[Jr]at hk' ⊢
   rw[Nt];exact hk')
  refine⟨gh2,M3.env (Bl n st.env).1,e.1,e.2.1,fun i=>?_,e.2.2.2⟩
  show VR cx gh2 _ (look i (Bl n st.env).1) _
  rcases U8 (e:=(Bl n st.env).1) (i:=i)with q|q
  .rw[q];trivial
  .exact(((C1 _ q).ext E2).ext E3).ext (Of gh2 _ _)
abbrev CSk:=List (Sh×Tok)
inductive PSk where
 |any
 |v (agg:Bool) (cs:CSk)
 |box (b off:Nat)
structure Sk where
 env:List (Nat×PSk)
 boxes:List (Nat×CSk)
 live:List Nat
def wkC (t:Tok) (x:Cl):Cl:=
 match t with
 | .rd=>cond (Bs x.sh) ⟨x.sh,x.val,.rd⟩ x
 | .ro=>match x.tok with| .pin _=>⟨x.sh,x.val,.ro⟩|_=>x
 | .row _=>match x.tok with| .own t=>⟨x.sh,x.val,.row t⟩|_=>x
 |_=>x
def Va:CSk->List Cl->List Cl
 |s::r,x::xs=>wkC s.2 x::Va r xs
 |_,xs=>xs
def wkV:PSk->PV->PV
 | .v _ cs,.v a xs=>.v a (Va cs xs)
 |_,p=>p
def wkE:List (Nat×PSk)->List (Nat×PV)->List (Nat×PV)
 |s::r,p::t=>(p.1,wkV s.2 p.2)::wkE r t
 |_,t=>t
def wkB:List (Nat×CSk)->List (Nat×List Cl)->List (Nat×List Cl)
 |s::r,p::t=>(p.1,Va s.2 p.2)::wkB r t
 |_,t=>t
def wk (k:Sk) (st:St):St:={st with env:=wkE k.env st.env,boxes:=wkB k.boxes st.boxes}
theorem Adv {cx:Cx} {g:Gh} {st:St} (t:Tok) {x:Cl} {v:Value} (h:CR cx g st x v):CR cx g st (wkC t x) v:=by
 cases t with
 |rd=>
  simp only[wkC]
  cases Bs x.sh with
  |true=>exact⟨h.1,trivial⟩
  |false=>exact h
 |ro=>
  obtain⟨sh,val,tok⟩:=x
  cases tok with
  |pin j=>exact⟨h.1,h.2.1⟩
  |_=>exact h
 |row u=>
  obtain⟨sh,val,tok⟩:=x
  cases tok with
  |own t=>
   refine⟨h.1,h.2.1,fun ht=>?_⟩
   obtain⟨q1,q2,q3,q4,q5⟩:=h.2.2 ht
   refine⟨?_,q2,q3,q4,q5⟩
   cases sh with
   |sl e cs=>
    simp only[Af]at q1
    obtain⟨css,r,hs,r1,r2,r3⟩:=q1
    exact⟨e,cs,_,_,rfl,r1.sub (r2.2 r (by simp))⟩
   |_=>cases q5
  |_=>exact h
 |_=>exact h
theorem Og {cx:Cx} {g:Gh} {st:St}: ∀ {s:CSk} {xs:List Cl} {vs:List Value},CRs cx g st xs vs->CRs cx g st (Va s xs) vs
 |s::r,x::xs,v::vs,h=>⟨Adv s.2 h.1,Og h.2⟩
 |[],xs,vs,h=>h
 |_::_,[],[],_=>trivial
 |_::_,[],_::_,h=>h.elim
 |_::_,_::_,[],h=>h.elim
theorem Adw {cx:Cx} {g:Gh} {st:St} {s:PSk} {p:PV} {v:Value} (h:VR cx g st p v):VR cx g st (wkV s p) v:=by
 cases s with
 |v a' cs=>
  cases p with
  |v a xs=>cases a with
   |true=>obtain⟨vs,e,h⟩:=h;exact⟨vs,e,Og h⟩
   |false=>exact Og (xs:=xs) (vs:=[v]) h
  |_=>exact h
 |_=>exact h
theorem Aai {cx:Cx} {g:Gh} {st:St} {v:Value} {i:Nat}: ∀ {s:List (Nat×PSk)} {e:List (Nat×PV)},VR cx g st (look i e) v->VR cx g st (look i (wkE s e)) v
 |s::r,p::t,h=>by
  obtain⟨j,x⟩:=p
  simp only[wkE]
  rw[Cd]at h ⊢
  by_cases hj:i=j
  .rw[if_pos hj]at h ⊢;exact Adw h
  .rw[if_neg hj]at h ⊢;exact Aai h
 |[],e,h=>h
 |_::_,[],h=>h
theorem Pw {i:Nat}: ∀ {s:List (Nat×CSk)} {L:List (Nat×List Cl)},(Aq i (wkB s L)).isSome=(Aq i L).isSome/\ ∀cs,Aq i (wkB s L)=some cs-> ∃c0 k,Aq i L=some c0/\cs=Va k c0
 |s::r,p::t=>by
  obtain⟨j,x⟩:=p
  simp only[wkB]
  rw[G8,G8]
  by_cases hj:i=j
  .rw[if_pos hj,if_pos hj]
   exact⟨rfl,fun cs h=>⟨x,s.2,rfl,by simpa using h.symm⟩⟩
  .rw[if_neg hj,if_neg hj];exact Pw
 |[],L=>⟨rfl,fun cs h=>⟨cs,[],h,by cases cs<;>rfl⟩⟩
 |_::_,[]=>⟨rfl,fun cs h=>by cases h⟩
theorem Acw (k:Sk):J7 (wk k):=fun cx gh st a w nt m e=>by
 obtain⟨M3,E3⟩:=m.reBox (bs:=wkB k.boxes st.boxes) (fun i cs hk=>by
  obtain⟨c0,s,h1,h2⟩:=Pw.2 cs hk
  obtain⟨vs,ty,k1,k2,k3⟩:=m.box i c0 h1
  exact⟨B5 h1,vs,ty,k1,by rw[h2];exact Og k3⟩) (fun i hi=>by
  rw[Pw.1];exact hi)
 refine⟨gh,M3.env _,e.1,e.2.1,fun i=>?_,e.2.2.2⟩
 show VR cx gh _ (look i (wkE k.env st.env)) _
 exact((Aai (e.2.2.1 i)).ext E3).ext (Of gh _ _)
def Gf (acc:List Nat):List Cl->List Nat
 |[]=>acc
 |⟨_,_,.own t⟩::r=>Gf (G6 acc t) r
 |⟨_,_,.row t⟩::r=>Gf (G6 acc t) r
 |⟨_,_,.bag t _⟩::r=>Gf (G6 acc t) r
 |_::r=>Gf acc r
def Px (acc:List Nat):List (Bool×List Cl)->List Nat
 |[]=>acc
 |x::r=>Px (Gf acc x.2) r
def Ho (acc:List Nat):List (Nat×PV)->List Nat
 |[]=>acc
 |(_,.v _ xs)::r=>Ho (Gf acc xs) r
 |(_,.tup l)::r=>Ho (Px acc l) r
 |_::r=>Ho acc r
def L9 (acc:List Nat):List (Nat×List Cl)->List Nat
 |[]=>acc
 |x::r=>L9 (Gf acc x.2) r
theorem Bd: ∀ {xs:List Cl} {acc:List Nat},acc.Nodup->(Gf acc xs).Nodup
 |[],acc,h=>h
 |⟨_,_,.own t⟩::r,acc,h=>Bd (xs:=r) (Ja h)
 |⟨_,_,.row t⟩::r,acc,h=>Bd (xs:=r) (Ja h)
 |⟨_,_,.rd⟩::r,acc,h=>Bd (xs:=r) h
 |⟨_,_,.pin _⟩::r,acc,h=>Bd (xs:=r) h
 |⟨_,_,.elt _ _ _ _ _ _ _⟩::r,acc,h=>Bd (xs:=r) h
 |⟨_,_,.bag t _⟩::r,acc,h=>Bd (xs:=r) (Ja h)
 |⟨_,_,.one _ _ _⟩::r,acc,h=>Bd (xs:=r) h
 |⟨_,_,.nst _⟩::r,acc,h=>Bd (xs:=r) h
 |⟨_,_,.prt _ _ _ _ _⟩::r,acc,h=>Bd (xs:=r) h
 |⟨_,_,.ro⟩::r,acc,h=>Bd (xs:=r) h
 |⟨_,_,.nil⟩::r,acc,h=>Bd (xs:=r) h
theorem Kp: ∀ {xs:List (Bool×List Cl)} {acc:List Nat},acc.Nodup->(Px acc xs).Nodup
 |[],acc,h=>h
 |x::r,acc,h=>Kp (xs:=r) (Bd (xs:=x.2) h)
theorem C5: ∀ {xs:List (Nat×PV)} {acc:List Nat},acc.Nodup->(Ho acc xs).Nodup
 |[],acc,h=>h
 |(_,.v _ xs)::r,acc,h=>C5 (xs:=r) (Bd (xs:=xs) h)
 |(_,.tup l)::r,acc,h=>C5 (xs:=r) (Kp (xs:=l) h)
 |(_,.any)::r,acc,h=>C5 (xs:=r) h
 |(_,.box _ _)::r,acc,h=>C5 (xs:=r) h
 |(_,.el _ _ _)::r,acc,h=>C5 (xs:=r) h
theorem Kq: ∀ {xs:List (Nat×List Cl)} {acc:List Nat},acc.Nodup->(L9 acc xs).Nodup
 |[],acc,h=>h
 |x::r,acc,h=>Kq (xs:=r) (Bd (xs:=x.2) h)
def Ma (z:Nat) (ts:List Nat) (x:Cl):Cl:=
 match x with
 |⟨s,d,.own t⟩=>⟨s,d,match pos t ts with|some n=>.own (z+n)|none=>.rd⟩
 |⟨s,d,.row t⟩=>⟨s,d,match pos t ts with|some n=>.row (z+n)|none=>.rd⟩
 |⟨s,d,.elt _ _ _ _ _ _ _⟩=>⟨s,d,C9 s .rd⟩
 |⟨s,d,.bag t lo⟩=>⟨s,d,match pos t ts with|some n=>.bag (z+n) lo|none=>.rd⟩
 |⟨s,d,.one _ _ _⟩=>⟨s,d,C9 s .rd⟩
 |⟨s,d,.nst _⟩=>⟨s,d,C9 s .rd⟩
 |⟨s,d,.prt _ _ _ _ _⟩=>⟨s,d,C9 s .rd⟩
 |x=>x
def Ze (z:Nat) (ts:List Nat):PV->PV
 | .v a xs=>.v a (xs.map (Ma z ts))
 | .box b o=>.box b o
 |_=>.any
def Ic (z:Nat) (st:St):St:=
 let ts:=(L9 (Ho [] st.env) st.boxes).filter fun t=>st.live.contains t
 {env:=st.env.map fun p=>(p.1,Ze z ts p.2),boxes:=st.boxes.map fun b=>(b.1,b.2.map (Ma z ts)),live:=List.range' z ts.length,used:=List.range' z ts.length}
theorem Zf (z:Nat):J7 (Ic z):=fun cx gh st a w nt m e=>by
 let ts:=(L9 (Ho [] st.env) st.boxes).filter fun t=>st.live.contains t
 have hts: ∀ {n t:Nat},ts[n]? =some t->t∈st.live:=fun {n t} h=>by
  have h2:=(List.mem_filter.1 (List.mem_of_getElem? h)).2
  simpa using h2
 have hnd:ts.Nodup:=(Kq (C5 (xs:=st.env) List.nodup_nil)).filter _
 let gh':Gh:=⟨gh.G,gh.B,fun j=>gh.F (ts.getD (j-z) 0),fun j=>gh.V (ts.getD (j-z) 0),fun j=>gh.S (ts.getD (j-z) 0)⟩
 have hget0: ∀ {n t:Nat},ts[n]? =some t->ts.getD (z+n-z) 0=t:=fun {n t} h=>by
  rw[Nat.add_sub_cancel_left,List.getD_eq_getElem?_getD,h];rfl
 have hget: ∀ {n t:Nat},ts[n]? =some t->gh'.F (z+n)=gh.F t:=fun {n t} h=>by
  show gh.F (ts.getD (z+n-z) 0)=gh.F t
  rw[hget0 h]
 have hgetV: ∀ {n t:Nat},ts[n]? =some t->gh'.V (z+n)=gh.V t:=fun {n t} h=>by
  show gh.V (ts.getD (z+n-z) 0)=gh.V t
  rw[hget0 h]
 have hgetS: ∀ {n t:Nat},ts[n]? =some t->gh'.S (z+n)=gh.S t:=fun {n t} h=>by
  show gh.S (ts.getD (z+n-z) 0)=gh.S t
  rw[hget0 h]
 have hcr: ∀ {x:Cl} {v:Value},CR cx gh st x v->CR cx gh' (Ic z st) (Ma z ts x) v:=fun {x v} h=>by
  obtain⟨s,d,tk⟩:=x
  obtain⟨h1,h2⟩:=h
  cases tk with
  |ro=>exact⟨h1,h2⟩
  |rd=>exact⟨h1,trivial⟩
  |nil=>exact⟨h1,h2⟩
  |pin j=>exact⟨h1,h2⟩
  |elt t e cs l i d j=>
   refine⟨h1,?_⟩
   cases s<;>first|trivial|(intro _ _ e;cases e)
  |one _ _ _=>
   refine⟨h1,?_⟩
   cases s<;>first|trivial|(intro _ _ e;cases e)
  |nst _=>
   refine⟨h1,?_⟩
   cases s<;>first|trivial|(intro _ _ e;cases e)
  |prt _ _ _ _ _=>
   refine⟨h1,?_⟩
   cases s<;>first|trivial|(intro _ _ e;cases e)
  |bag t lo=>
   simp only[Ma]
   cases hp:pos t ts with
   |none=>exact⟨h1,trivial⟩
   |some n=>
    have hn:=L7 hp
    refine⟨h1,List.mem_range'_1.2 ⟨by omega,by have h9:=(List.getElem?_eq_some_iff.1 hn).1;show z+n<z+ts.length;omega⟩,fun _=>?_⟩
    rw[hget hn]
    exact h2.2 (hts hn)
  |own t=>
   simp only[Ma]
   cases hp:pos t ts with
   |none=>exact⟨h1,trivial⟩
   |some n=>
    have hn:=L7 hp
    refine⟨h1,List.mem_range'_1.2 ⟨by omega,by have h9:=(List.getElem?_eq_some_iff.1 hn).1;show z+n<z+ts.length;omega⟩,fun _=>?_⟩
    rw[hget hn,hgetV hn,hgetS hn]
    exact h2.2 (hts hn)
  |row t=>
   simp only[Ma]
   cases hp:pos t ts with
   |none=>exact⟨h1,trivial⟩
   |some n=>
    have hn:=L7 hp
    refine⟨h1,List.mem_range'_1.2 ⟨by omega,by have h9:=(List.getElem?_eq_some_iff.1 hn).1;show z+n<z+ts.length;omega⟩,fun _=>?_⟩
    rw[hget hn,hgetV hn,hgetS hn]
    exact h2.2 (hts hn)
 have hcrs: ∀ {xs:List Cl} {vs:List Value},CRs cx gh st xs vs->CRs cx gh' (Ic z st) (xs.map (Ma z ts)) vs:=by
  intro xs
  induction xs with
  |nil=>intro vs h;cases vs with|nil=>trivial|cons _ _=>exact h.elim
  |cons x xs ih=>intro vs h;cases vs with|nil=>exact h.elim|cons v vs=>exact⟨hcr h.1,ih h.2⟩
 have hvv: ∀ {b:Bool} {xs:List Cl} {v:Value},VRv cx gh st b xs v->VRv cx gh' (Ic z st) b (xs.map (Ma z ts)) v:=fun {b xs v} h=>by
  cases b with
  |true=>obtain⟨vs,e,h⟩:=h;exact⟨vs,e,hcrs h⟩
  |false=>exact hcrs (xs:=xs) (vs:=[v]) h
 have hmem: ∀ {t:Nat},t∈(Ic z st).live-> ∃j u,t=z+j/\ts[j]? =some u:=fun {t} ht=>by
  have h1:=List.mem_range'_1.1 (show t∈List.range' z ts.length from ht)
  exact⟨t-z,_,by omega,List.getElem?_eq_getElem (show t-z<ts.length by omega)⟩
 have hbx: ∀k,(Ic z st).bx k=(st.bx k).map fun b=>b.map (Ma z ts):=fun k=>D0 _ st.boxes k
 have hhas: ∀k,(Ic z st).has k=st.has k:=fun k=>by unfold St.has;rw[hbx];simp
 refine⟨gh',⟨m.moved,m.lies,m.g0,m.old,?_,fun i j hi hj=>m.inj i j (by rw[<-hhas];exact hi) (by rw[<-hhas];exact hj),fun k o hk=>m.boxG k o (by rw[<-hhas];exact hk),?_,?_,?_,?_,m.new⟩,e.1,e.2.1,fun i=>?_,e.2.2.2⟩
 .intro k cs hk
  rw[hbx]at hk
  cases hb:st.bx k with
  |none=>rw[hb]at hk;cases hk
  |some c0=>
   rw[hb]at hk
   simp at hk;subst hk
   obtain⟨vs,e',h1,h2,h3⟩:=m.box k c0 hb
   exact⟨vs,e',h1,h2,hcrs h3⟩
 .intro t ht
  obtain⟨j,u,rfl,hu⟩:=hmem ht
  rw[hget hu]
  exact⟨ht,(m.tok u (hts hu)).2⟩
 .intro t u ht hu htu
  obtain⟨j,x,rfl,hx⟩:=hmem ht
  obtain⟨i,y,rfl,hy⟩:=hmem hu
  rw[hget hx,hget hy]
  refine m.apart x y (hts hx) (hts hy) (fun e=>htu ?_)
  subst e
  rw[(List.getElem?_inj (List.getElem?_eq_some_iff.1 hx).1 hnd).1 (hx.trans hy.symm)]
 .intro t k ht hk
  obtain⟨j,u,rfl,hu⟩:=hmem ht
  rw[hget hu]
  exact m.tokBox u k (hts hu) (by rw[<-hhas];exact hk)
 .exact List.nodup_range'
 .have:(Ic z st).get i=Ze z ts (st.get i):=E8 (Ze z ts) rfl st.env i
  rw[this]
  have hv:=e.2.2.1 i
  cases hg:st.get i with
  |any=>trivial
  |v b xs=>rw[hg]at hv;exact hvv hv
  |box b o=>rw[hg]at hv;exact⟨by rw[hhas];exact hv.1,hv.2⟩
  |el _ _ _=>trivial
  |tup l=>trivial
def Tok.beq:Tok->Tok->Bool
 | .ro,.ro=>true
 | .rd,.rd=>true
 | .nil,.nil=>true
 | .own t,.own u=>Nat.beq t u
 | .row t,.row u=>Nat.beq t u
 | .pin t,.pin u=>Nat.beq t u
 |_,_=>false
theorem Tok.eq_of_beq {a b:Tok} (h:Tok.beq a b=true):a=b:=by
 unfold Tok.beq at h
 split at h
 .rfl
 .rfl
 .rfl
 .rw[Nat.eq_of_beq_eq_true h]
 .rw[Nat.eq_of_beq_eq_true h]
 .rw[Nat.eq_of_beq_eq_true h]
 .cases h
@[reducible] def R7:CSk->Type->Type
 |[],R=>R
 |s::r,R=>s.1.den×R7 r R
@[reducible] def Py:List (Nat×PSk)->Type->Type
 |[],R=>R
 |(_,.v _ cs)::r,R=>R7 cs (Py r R)
 |(_,.any)::r,R=>Py r R
 |(_,.box _ _)::r,R=>Py r R
@[reducible] def Vb:List (Nat×CSk)->Type->Type
 |[],R=>R
 |(_,cs)::r,R=>R7 cs (Vb r R)
def mkC {R:Type}:(cs:CSk)->R7 cs R->List Cl×R
 |[],d=>([],d)
 |s::r,d=>(⟨s.1,d.1,s.2⟩::(mkC r d.2).1,(mkC r d.2).2)
def mkE {R:Type}:(e:List (Nat×PSk))->Py e R->List (Nat×PV)×R
 |[],d=>([],d)
 |(i,.v a cs)::r,d=>((i,.v a (mkC cs d).1)::(mkE r (mkC cs d).2).1,(mkE r (mkC cs d).2).2)
 |(i,.any)::r,d=>((i,.any)::(mkE (R:=R) r d).1,(mkE (R:=R) r d).2)
 |(i,.box b o)::r,d=>((i,.box b o)::(mkE (R:=R) r d).1,(mkE (R:=R) r d).2)
def mkB {R:Type}:(e:List (Nat×CSk))->Vb e R->List (Nat×List Cl)×R
 |[],d=>([],d)
 |(i,cs)::r,d=>((i,(mkC cs d).1)::(mkB r (mkC cs d).2).1,(mkB r (mkC cs d).2).2)
@[reducible] def Sk.den (k:Sk):Type:=Py k.env (Vb k.boxes Unit)
def Sk.mk' (k:Sk) (d:k.den):St:=
 {env:=(mkE k.env d).1,boxes:=(mkB k.boxes (mkE k.env d).2).1,live:=k.live,used:=k.live}
def unC {R:Type} (K:Option R):(cs:CSk)->List Cl->Option (R7 cs R)
 |[],[]=>K
 |s::r,x::xs=>ob (evS s.1 x) fun d=>chk (Tok.beq x.tok s.2) (ob (unC K r xs) fun e=>some (d,e))
 |_,_=>none
def unE {R:Type} (K:Option R):(e:List (Nat×PSk))->List (Nat×PV)->Option (Py e R)
 |[],[]=>K
 |(i,.v a cs)::r,(j,.v b xs)::t=>chk (Nat.beq i j && a==b) (unC (unE K r t) cs xs)
 |(i,.any)::r,(j,.any)::t=>chk (Nat.beq i j) (unE K r t)
 |(i,.box b o)::r,(j,.box c p)::t=>chk (Nat.beq i j && Nat.beq b c && Nat.beq o p) (unE K r t)
 |_,_=>none
def unB {R:Type} (K:Option R):(e:List (Nat×CSk))->List (Nat×List Cl)->Option (Vb e R)
 |[],[]=>K
 |(i,cs)::r,(j,xs)::t=>chk (Nat.beq i j) (unC (unB K r t) cs xs)
 |_,_=>none
def Vc:List Nat->List Nat->Bool
 |[],[]=>true
 |x::r,y::t=>Nat.beq x y && Vc r t
 |_,_=>false
theorem R8: ∀ {a b:List Nat},Vc a b=true->a=b
 |[],[],_=>rfl
 |x::r,y::t,h=>by
  simp only[Vc,Bool.and_eq_true]at h
  rw[Nat.eq_of_beq_eq_true h.1,R8 h.2]
 |[],_::_,h=>by cases h
 |_::_,[],h=>by cases h
def Sk.un (k:Sk) (st:St):Option k.den:=
 chk (Vc k.live st.live && Vc k.live st.used) (unE (unB (some ()) k.boxes st.boxes) k.env st.env)
theorem Abv {s:Sh} {x:Cl} {d:s.den} (h:evS s x=some d):x=⟨s,d,x.tok⟩:=by
 unfold evS at h
 split at h
 .rename_i e
  obtain⟨sh,v,t⟩:=x
  simp only at e
  subst e
  simp at h;subst h;rfl
 .cases h
theorem Pz {R:Type} {K:Option R}: ∀ {cs:CSk} {xs:List Cl} {d:R7 cs R},unC K cs xs=some d-> ∃r,K=some r/\mkC cs d=(xs,r)
 |[],[],d,h=>⟨d,h,rfl⟩
 |s::t,x::xs,d,h=>by
  simp only[unC]at h
  obtain⟨v,hv,h⟩:=Ab h
  obtain⟨ht,h⟩:=Ae h
  obtain⟨e,he,h⟩:=Ab h
  simp only[Option.some.injEq]at h
  subst h
  obtain⟨r,hr,hm⟩:=Pz he
  refine⟨r,hr,?_⟩
  simp only[mkC,hm]
  rw[<-Tok.eq_of_beq ht,<-Abv hv]
 |[],_::_,d,h=>by simp[unC]at h
 |_::_,[],d,h=>by simp[unC]at h
theorem Mb {R:Type} {K:Option R}: ∀ {cs:List (Nat×PSk)} {xs:List (Nat×PV)} {d:Py cs R},unE K cs xs=some d-> ∃r,K=some r/\mkE cs d=(xs,r)
 |[],[],d,h=>⟨d,h,rfl⟩
 |(i,.v a cs)::t,(j,.v b xs)::ys,d,h=>by
  simp only[unE]at h
  obtain⟨hb,h⟩:=Ae h
  simp only[Bool.and_eq_true]at hb
  obtain⟨r1,h1,hm⟩:=Pz h
  obtain⟨r,hr,hm2⟩:=Mb h1
  have e1:=Nat.eq_of_beq_eq_true hb.1
  have e2:a=b:=by simpa using hb.2
  subst e1;subst e2
  exact⟨r,hr,by simp only[mkE,hm,hm2]⟩
 |(i,.any)::t,(j,.any)::ys,d,h=>by
  simp only[unE]at h
  obtain⟨hb,h⟩:=Ae h
  obtain⟨r,hr,hm2⟩:=Mb h
  have e1:=Nat.eq_of_beq_eq_true hb
  subst e1
  exact⟨r,hr,by simp only[mkE,hm2]⟩
 |(i,.box b o)::t,(j,.box c p)::ys,d,h=>by
  simp only[unE]at h
  obtain⟨hb,h⟩:=Ae h
  simp only[Bool.and_eq_true]at hb
  obtain⟨r,hr,hm2⟩:=Mb h
  have e1:=Nat.eq_of_beq_eq_true hb.1.1
  have e2:=Nat.eq_of_beq_eq_true hb.1.2
  have e3:=Nat.eq_of_beq_eq_true hb.2
  subst e1;subst e2;subst e3
  exact⟨r,hr,by simp only[mkE,hm2]⟩
 |[],_::_,d,h=>by simp[unE]at h
 |(_,.v _ _)::_,[],d,h=>by simp[unE]at h
 |(_,.v _ _)::_,(_,.any)::_,d,h=>by simp[unE]at h
 |(_,.v _ _)::_,(_,.box _ _)::_,d,h=>by simp[unE]at h
 |(_,.v _ _)::_,(_,.el _ _ _)::_,d,h=>by simp[unE]at h
 |(_,.v _ _)::_,(_,.tup _)::_,d,h=>by simp[unE]at h
 |(_,.any)::_,[],d,h=>by simp[unE]at h
 |(_,.any)::_,(_,.v _ _)::_,d,h=>by simp[unE]at h
 |(_,.any)::_,(_,.box _ _)::_,d,h=>by simp[unE]at h
 |(_,.any)::_,(_,.el _ _ _)::_,d,h=>by simp[unE]at h
 |(_,.any)::_,(_,.tup _)::_,d,h=>by simp[unE]at h
 |(_,.box _ _)::_,[],d,h=>by simp[unE]at h
 |(_,.box _ _)::_,(_,.v _ _)::_,d,h=>by simp[unE]at h
 |(_,.box _ _)::_,(_,.any)::_,d,h=>by simp[unE]at h
 |(_,.box _ _)::_,(_,.el _ _ _)::_,d,h=>by simp[unE]at h
 |(_,.box _ _)::_,(_,.tup _)::_,d,h=>by simp[unE]at h
theorem Vd {R:Type} {K:Option R}: ∀ {cs:List (Nat×CSk)} {xs:List (Nat×List Cl)} {d:Vb cs R},unB K cs xs=some d-> ∃r,K=some r/\mkB cs d=(xs,r)
 |[],[],d,h=>⟨d,h,rfl⟩
 |(i,cs)::t,(j,xs)::ys,d,h=>by
  simp only[unB]at h
  obtain⟨hb,h⟩:=Ae h
  obtain⟨r1,h1,hm⟩:=Pz h
  obtain⟨r,hr,hm2⟩:=Vd h1
  have e1:=Nat.eq_of_beq_eq_true hb
  subst e1
  exact⟨r,hr,by simp only[mkB,hm,hm2]⟩
 |[],_::_,d,h=>by simp[unB]at h
 |_::_,[],d,h=>by simp[unB]at h
theorem Acx {k:Sk} {st:St} {d:k.den} (h:k.un st=some d):st=k.mk' d:=by
 unfold Sk.un at h
 obtain⟨hb,h⟩:=Ae h
 simp only[Bool.and_eq_true]at hb
 obtain⟨r1,h1,hm⟩:=Mb h
 obtain⟨r2,h2,hm2⟩:=Vd h1
 unfold Sk.mk'
 rw[hm,hm2]
 obtain⟨e,b,l,u⟩:=st
 have e1:=R8 hb.1
 have e2:=R8 hb.2
 simp only at e1 e2 ⊢
 subst e1;subst e2;rfl
def Zg (k:Sk) (z:Nat) (st:St):St:=Ic z (wk k (U9 (z+1000) (Fy (Zb (k.env.map (·.1)) st))))
theorem Nu (k:Sk) (z:Nat):J7 (Zg k z):=((((Zc (k.env.map (·.1))).comp Zd).comp (V9 (z+1000))).comp (Acw k)).comp (Zf z)
def Sk.fit (k:Sk) (z:Nat) (st:St):Option k.den:=k.un (Zg k z st)
theorem Mc {k:Sk} {z:Nat} {st:St} {d:k.den} (h:k.fit z st=some d):Zg k z st=k.mk' d:=Acx h
end
end
section
noncomputable section

theorem Ak.split: ∀ {cs:List Sh} {h:Aa} {d:dens cs} {c:List Value},Ak h cs d c-> ∃fs:Nat->Aa,(∀j sg,Bo cs d j=some sg-> ∃u,c[j]? =some u/\Af (fs j) sg.sh sg.val u)/\(∀j,(fs j).sub h)/\ ∀j j',j≠j'->(fs j).apart (fs j')
 |[],h,d,c,_=>⟨fun _=>Aa.emp,fun j sg hj=>by simp[Bo]at hj,fun j=>Aa.emp_sub _,fun _ _ _=>Aa.apart_emp _⟩
 |s::r,h,d,c,ho=>by
  simp only[Ak]at ho
  obtain⟨v,t,g,h',rfl,hp,h1,h2⟩:=ho
  obtain⟨fs,q1,q2,q3⟩:=Ak.split h2
  have ha:g.apart h':=(List.pairwise_cons.1 hp.1).1 h' (by simp)
  refine⟨fun j=>match j with|0=>g|j+1=>fs j,?_,?_,?_⟩
  .intro j sg hj
   cases j with
   |zero=>simp[Bo]at hj;subst hj;exact⟨v,rfl,h1⟩
   |succ j=>simp only[Bo]at hj;obtain⟨u,e,ho⟩:=q1 j sg hj;exact⟨u,by simpa using e,ho⟩
  .intro j
   cases j with
   |zero=>exact hp.2 g (by simp)
   |succ j=>exact Aa.sub_trans (q2 j) (hp.2 h' (by simp))
  .intro j j' hne
   cases j with
   |zero=>cases j' with
    |zero=>exact(hne rfl).elim
    |succ j'=>exact Aa.apart_sub ha (Aa.sub_refl _) (q2 j')
   |succ j=>cases j' with
    |zero=>exact Aa.apart_symm (Aa.apart_sub ha (Aa.sub_refl _) (q2 j))
    |succ j'=>exact q3 j j' (fun e=>hne (by rw[e]))
theorem Xw.mono {G:Ad} {F:Aa} {cs:List Sh} {l:List (dens cs)} {lo lo':Nat} {v:Value} (h:Xw G F cs l lo v) (hl:lo<=lo'):Xw G F cs l lo' v:=by
 obtain⟨b,h,c,h1,h2⟩:=h
 exact⟨b,h,c,fun i d hi hd=>h1 i d (by omega) hd,fun i i' hi hi'=>h2 i i' (by omega) (by omega)⟩
end
end
section
noncomputable section

def Abw:Sh->Value->Bool
 | .int k,.int j n=>decide (k=j) && decide (n=0)
 | .bool,.bool b=> !b
 | .str,.string s=>Nat.beq s.size 0
 | .sl _ _,.slice none 0 0=>true
 |_,_=>false
theorem Acy: ∀ {s:Sh} {v:Value},Abw s v=true->v=zv s:=by
 intro s v h
 unfold Abw at h
 split at h
 .simp at h;obtain⟨rfl,rfl⟩:=h;rfl
 .simp at h;subst h;rfl
 .rename_i s
  have h1:s.size=0:=Nat.eq_of_beq_eq_true h
  have:s=ByteArray.empty:=by
   cases s with|mk d=>
   have h2:d.size=0:=h1
   have:d= #[]:=Array.size_eq_zero_iff.1 h2
   subst this;rfl
  subst this;rfl
 .rfl
 .cases h
def Md:List Sh->List Value->Bool
 |[],[]=>true
 |s::r,v::t=>Abw s v && Md r t
 |_,_=>false
theorem P0: ∀ {s:List Sh} {v:List Value},Md s v=true->v=s.map zv
 |[],[],_=>rfl
 |s::r,v::t,h=>by
  simp only[Md,Bool.and_eq_true]at h
  rw[Acy h.1,P0 h.2];rfl
 |[],_::_,h=>by simp[Md]at h
 |_::_,[],h=>by simp[Md]at h
def J8 (P:Program):List Field->List (Nat×Nat)->Bool
 |[],[]=>true
 |f::fs,(off,sz)::r=>Nat.beq f.offset off && (match P.info? f.type with|some i=>Nat.beq i.size sz && Nat.blt 0 i.size|none=>false) && J8 P fs r
 |_,_=>false
theorem Wz {P:Program}: ∀ {fs:List Field} {r:List (Nat×Nat)},J8 P fs r=true-> ∀(j off sz:Nat),r[j]? =some (off,sz)-> ∃(f:Field) (fi:TypeInfo),fs[j]? =some f/\f.offset=off/\P.info? f.type=some fi/\fi.size=sz/\0<sz
 |[],[],_,j,off,sz,h=>by simp at h
 |f::fs,(o,s)::r,h,j,off,sz,hj=>by
  simp only[J8,Bool.and_eq_true]at h
  cases j with
  |zero=>
   simp at hj
   obtain⟨rfl,rfl⟩:=hj
   obtain⟨⟨h1,h2⟩,_⟩:=h
   cases hi:P.info? f.type with
   |none=>rw[hi]at h2;cases h2
   |some i=>
    rw[hi]at h2
    simp only[Bool.and_eq_true]at h2
    have e1:=Nat.eq_of_beq_eq_true h2.1
    have e2:0<i.size:=Nat.le_of_ble_eq_true h2.2
    exact⟨f,i,rfl,Nat.eq_of_beq_eq_true h1,hi,e1,e1▸e2⟩
  |succ j=>exact Wz h.2 j off sz (by simpa using hj)
 |[],_::_,h,_,_,_,_=>by simp[J8]at h
 |_::_,[],h,_,_,_,_=>by simp[J8]at h
theorem Ve {P:Program}: ∀ {fs:List Field} {r:List (Nat×Nat)},J8 P fs r=true->fs.mapM (fun f=>(P.info? f.type).map fun i=>(f.offset,i.size))=some r
 |[],[],_=>rfl
 |f::fs,(o,s)::r,h=>by
  simp only[J8,Bool.and_eq_true]at h
  obtain⟨⟨h1,h2⟩,h3⟩:=h
  cases hi:P.info? f.type with
  |none=>rw[hi]at h2;cases h2
  |some i=>
   rw[hi]at h2
   simp only[Bool.and_eq_true]at h2
   simp[List.mapM_cons,hi,Ve h3,Nat.eq_of_beq_eq_true h1,Nat.eq_of_beq_eq_true h2.1]
 |[],_::_,h=>by simp[J8]at h
 |_::_,[],h=>by simp[J8]at h
def eqB (P:Program):List Field->List Sh->Nat->Bool
 |[],[],_=>true
 |f::fs,s::r,off=>(f.name != "_") && Nat.beq f.offset off && (match s,P.underlying f.type with| .int _,some (.int _)=>true| .bool,some .bool=>true|_,_=>false) && eqB P fs r (off+1)
 |_,_,_=>false
theorem Aaj {P:Program}: ∀ {fs:List Field} {r:List Sh} {off:Nat},eqB P fs r off=true->Qw P fs r off
 |[],[],_,_=>trivial
 |f::fs,s::r,off,h=>by
  simp only[eqB,Bool.and_eq_true]at h
  obtain⟨⟨⟨h1,h2⟩,h3⟩,h4⟩:=h
  refine⟨by simpa using h1,Nat.eq_of_beq_eq_true h2,?_,Aaj h4⟩
  split at h3
  .rename_i k heq;exact⟨_,heq⟩
  .rename_i heq;exact heq
  .cases h3
 |[],_::_,_,h=>by simp[eqB]at h
 |_::_,[],_,h=>by simp[eqB]at h
def R9 (P:Program):List Field->List Sh->Nat->Bool
 |[],[],_=>true
 |[],_::_,_=>false
 |f::fs,ss,off=>(f.name != "_") && Nat.beq f.offset off && (match P.underlying f.type with
  |some (.struct gs)=>(match P.info? f.type with
   |some i=> !P.stoodInHeld f.type && Nat.ble i.size ss.length && eqB P gs.toList (ss.take i.size) 0 && R9 P fs (ss.drop i.size) (off+i.size)
   |none=>false)
  |u=>(match ss with
   |s::r=>(match s,u with| .int _,some (.int _)=>true| .bool,some .bool=>true|_,_=>false) && R9 P fs r (off+1)
   |[]=>false))
theorem Sa {P:Program}: ∀ {fs:List Field} {ss:List Sh} {off:Nat},R9 P fs ss off=true->Kf P fs ss off
 |[],[],_,_=>rfl
 |[],_::_,_,h=>by simp[R9]at h
 |f::fs,ss,off,h=>by
  simp only[R9,Bool.and_eq_true]at h
  obtain⟨⟨h1,h2⟩,h3⟩:=h
  refine⟨by simpa using h1,Nat.eq_of_beq_eq_true h2,?_⟩
  split at h3
  .rename_i gs hgs
   split at h3
   .rename_i i hi
    simp only[Bool.and_eq_true,Bool.not_eq_true']at h3
    obtain⟨⟨⟨q1,q2⟩,q3⟩,q4⟩:=h3
    have q2:=Nat.le_of_ble_eq_true q2
    have hfs:P.fieldsOf f.type=gs:=by unfold Program.fieldsOf;rw[hgs]
    have hl:i.size=(ss.take i.size).length:=by simp;omega
    refine .inr ⟨ss.take i.size,ss.drop i.size,i,(List.take_append_drop _ _).symm,by rw[hfs];exact hgs,q1,hi,hl,by rw[hfs];exact Aaj q3,?_⟩
    rw[<-hl]
    exact Sa q4
   .cases h3
  .rename_i u hu
   split at h3
   .rename_i s r
    simp only[Bool.and_eq_true]at h3
    refine .inl ⟨s,r,rfl,?_,Sa h3.2⟩
    have h4:=h3.1
    split at h4
    .rename_i k heq;exact⟨_,heq⟩
    .rename_i heq;exact heq
    .cases h4
   .cases h3
def Abx (P:Program) (e:Nat) (cs:List Sh):Bool:=
 match cs with
 |[.int k]=>(match P.underlying e with|some (.int j)=>decide (k=j)|_=>false)
 |_=>true
theorem Acz {P:Program} {e:Nat} {cs:List Sh} (h:Abx P e cs=true) (k:IntKind) (hk:cs=[.int k]):P.underlying e=some (.int k):=by
 subst hk
 simp only[Abx]at h
 split at h
 .rename_i j hj;simp at h;subst h;exact hj
 .cases h
def Aby (P:Program) (e:Nat) (cs:List Sh):Bool:=
 match P.info? e with
 |some i=>(match i.zero with|some z=>Nat.beq z.cells.size cs.length && Md cs z.cells.toList|none=>false) && Nat.beq i.size cs.length && Nat.blt 0 cs.length && Nat.ble i.bytes 4096 && Nat.ble cs.length 4096 && Abx P e cs
 |none=>false
theorem Ac0 {P:Program} {t e:Nat} {cs:List Sh} (hu:P.underlying t=some (.slice e)) (h:Aby P e cs=true):(∃z b,RowTy P t e z cs.length b/\b<=4096/\z.cells.toList=cs.map zv)/\cs.length<=4096/\ ∀k,cs=[.int k]->P.underlying e=some (.int k):=by
 unfold Aby at h
 cases hi:P.info? e with
 |none=>rw[hi]at h;cases h
 |some i=>
  rw[hi]at h
  simp only[Bool.and_eq_true]at h
  obtain⟨⟨⟨⟨⟨h1,h2⟩,h3⟩,h4⟩,h5⟩,h6⟩:=h
  cases hz:i.zero with
  |none=>rw[hz]at h1;cases h1
  |some z=>
   rw[hz]at h1
   simp only[Bool.and_eq_true]at h1
   exact⟨⟨z,i.bytes,⟨hu,by rw[hi];simp[hz,Nat.eq_of_beq_eq_true h2],Nat.eq_of_beq_eq_true h1.1,Nat.le_of_ble_eq_true h3⟩,Nat.le_of_ble_eq_true h4,P0 h1.2⟩,Nat.le_of_ble_eq_true h5,Acz h6⟩
def Vf:List Field->List Nat->Bool
 |_,[]=>true
 |f::fs,u::r=>Nat.beq f.type u && Vf fs r
 |[],_::_=>false
theorem W0: ∀ {fs:List Field} {r:List Nat},Vf fs r=true-> ∀(j u:Nat),r[j]? =some u-> ∃f:Field,fs[j]? =some f/\f.type=u
 |_,[],_,j,u,h=>by simp at h
 |f::fs,x::r,h,j,u,hj=>by
  simp only[Vf,Bool.and_eq_true]at h
  cases j with
  |zero=>simp at hj;exact⟨f,rfl,(Nat.eq_of_beq_eq_true h.1).trans hj⟩
  |succ j=>exact W0 h.2 j u (by simpa using hj)
 |[],_::_,h,_,_,_=>by simp[Vf]at h
def Aak (P:Program) (t:Nat) (T:Ty):Bool:=match P.underlying t with
 |some (.struct fs)=>Vf fs.toList T.fty
 |_=>T.fty.isEmpty
def Aal (P:Program) (t:Nat) (T:Ty):Bool:=
 match P.info? t,P.underlying t with
 |some i,some d=>
  Nat.beq i.size T.shs.length && (match i.zero with|some z=>Md T.shs z.cells.toList|none=>false) && (d.isRow==T.agg) && (T.agg || Nat.beq T.shs.length 1) &&
  (match d with
   | .struct fs=>T.agg && J8 P fs.toList T.offs && (!T.eq || (!P.stoodInHeld t && !P.eqGuardType P.depth t && R9 P fs.toList T.shs 0))
   | .slice e=>T.offs.isEmpty && (match T.shs with|[.sl e' cs]=>Nat.beq e e' && Aby P e cs|_=>false)
   | .int k=>T.offs.isEmpty && (match T.shs with|[.int j]=>decide (k=j)|_=>false)
   | .bool=>T.offs.isEmpty && (match T.shs with|[.bool]=>true|_=>false)
   | .string=>T.offs.isEmpty && (match T.shs with|[.str]=>true|_=>false)
   |_=>false)
 |_,_=>false
def Zh (P:Program) (t:Nat) (T:Ty):Bool:=Aak P t T && Aal P t T
theorem Ac1 {P:Program} {t:Nat} {T:Ty} (h:Zh P t T=true):TyOk P t T:=by
 unfold Zh at h
 simp only[Bool.and_eq_true]at h
 obtain⟨hft,h⟩:=h
 have hfty: ∀(j u:Nat),T.fty[j]? =some u-> ∃(fs:Array Field) (f:Field),P.underlying t=some (.struct fs)/\fs[j]? =some f/\f.type=u:=by
  unfold Aak at hft
  split at hft
  .rename_i fs hfs
   intro j u hj
   obtain⟨f,h1,h2⟩:=W0 hft j u hj
   exact⟨fs,f,hfs,by simpa using h1,h2⟩
  .intro j u hj
   rw[List.isEmpty_iff.1 hft]at hj
   simp at hj
 unfold Aal at h
 split at h
 .rename_i i d hi hu
  simp only[Bool.and_eq_true]at h
  obtain⟨⟨⟨⟨h1,h2⟩,h3⟩,h4⟩,h5⟩:=h
  have hd:d.isRow=T.agg:=by simpa using h3
  have e1:=Nat.eq_of_beq_eq_true h1
  have hone:T.agg=false->T.shs.length=1:=fun ha=>by
   rw[ha]at h4;exact Nat.eq_of_beq_eq_true (by simpa using h4)
  cases hz:i.zero with
  |none=>rw[hz]at h2;cases h2
  |some z=>
   rw[hz]at h2
   have hzz:=P0 h2
   have hinf: ∃i z d,P.info? t=some i/\i.size=T.shs.length/\i.zero=some z/\z.cells.toList=T.shs.map zv/\P.underlying t=some d/\d.isRow=T.agg:=⟨i,z,d,hi,e1,hz,hzz,hu,hd⟩
   have nof:T.offs.isEmpty=true->(∀(j off sz:Nat),T.offs[j]? =some (off,sz)-> ∃fs f fi,P.underlying t=some (.struct fs)/\fs[j]? =some f/\f.offset=off/\P.info? f.type=some fi/\fi.size=sz/\0<sz)/\(0<T.offs.length-> ∃fs:Array Field,P.underlying t=some (.struct fs)/\fs.toList.mapM (fun f=>(P.info? f.type).map fun i=>(f.offset,i.size))=some T.offs):=fun he=>by
    rw[List.isEmpty_iff.1 he]
    exact⟨fun j off sz h=>by simp at h,fun h=>by simp at h⟩
   split at h5
   .rename_i fs
    simp only[Bool.and_eq_true]at h5
    obtain⟨⟨ha,hf⟩,heq⟩:=h5
    have na: ∀ {p:Prop},T.agg=false->p:=fun hn=>by rw[ha]at hn;cases hn
    refine⟨hinf,fun j off sz hj=>?_,fun _=>⟨fs,hu,Ve hf⟩,fun _ _ hn=>na hn,fun _ _ hn=>na hn,fun _ _ hn=>na hn,fun _ hn=>na hn,fun hn=>na hn,fun hn=>na hn,fun _ he=>?_,hone,hfty⟩
    .obtain⟨f,fi,q1,q2⟩:=Wz hf j off sz hj
     exact⟨fs,f,fi,hu,by simpa using q1,q2⟩
    .rw[he]at heq
     simp only[Bool.not_true,Bool.false_or,Bool.and_eq_true,Bool.not_eq_true']at heq
     have hfs:P.fieldsOf t=fs:=by unfold Program.fieldsOf;rw[hu]
     rw[hfs]
     exact⟨hu,heq.1.1,heq.1.2,Sa heq.2⟩
   .rename_i e
    simp only[Bool.and_eq_true]at h5
    obtain⟨ho,h5⟩:=h5
    split at h5
    .rename_i e' cs hs
     simp only[Bool.and_eq_true]at h5
     have e2:=Nat.eq_of_beq_eq_true h5.1
     subst e2
     obtain⟨r1,r2,r3⟩:=Ac0 hu h5.2
     have nag:T.agg=false:=by rw[<-hd]
     refine⟨hinf,(nof ho).1,(nof ho).2,fun e' cs' _ hs'=>?_,fun e' cs' _ hs'=>?_,fun e' k _ hs'=>?_,fun k _ hs'=>?_,fun _ hs'=>?_,fun _ hs'=>?_,fun hn=>?_,hone,hfty⟩
     .rw[hs]at hs';cases hs';exact⟨hu,r1⟩
     .rw[hs]at hs';cases hs';exact r2
     .rw[hs]at hs';cases hs';exact r3 _ rfl
     .rw[hs]at hs';cases hs'
     .rw[hs]at hs';cases hs'
     .rw[hs]at hs';cases hs'
     .rw[nag]at hn;cases hn
    .cases h5
   .rename_i k
    simp only[Bool.and_eq_true]at h5
    obtain⟨ho,h5⟩:=h5
    split at h5
    .rename_i j hs
     have e2:k=j:=by simpa using h5
     subst e2
     have nag:T.agg=false:=by rw[<-hd]
     refine⟨hinf,(nof ho).1,(nof ho).2,fun e' cs' _ hs'=>?_,fun e' cs' _ hs'=>?_,fun e' k _ hs'=>?_,fun k _ hs'=>?_,fun _ hs'=>?_,fun _ hs'=>?_,fun hn=>?_,hone,hfty⟩
     .rw[hs]at hs';cases hs'
     .rw[hs]at hs';cases hs'
     .rw[hs]at hs';cases hs'
     .rw[hs]at hs';cases hs';exact hu
     .rw[hs]at hs';cases hs'
     .rw[hs]at hs';cases hs'
     .rw[nag]at hn;cases hn
    .cases h5
   .simp only[Bool.and_eq_true]at h5
    obtain⟨ho,h5⟩:=h5
    split at h5
    .rename_i hs
     have nag:T.agg=false:=by rw[<-hd]
     refine⟨hinf,(nof ho).1,(nof ho).2,fun e' cs' _ hs'=>?_,fun e' cs' _ hs'=>?_,fun e' k _ hs'=>?_,fun k _ hs'=>?_,fun _ hs'=>?_,fun _ hs'=>?_,fun hn=>?_,hone,hfty⟩
     .rw[hs]at hs';cases hs'
     .rw[hs]at hs';cases hs'
     .rw[hs]at hs';cases hs'
     .rw[hs]at hs';cases hs'
     .rw[hs]at hs';cases hs'
     .exact hu
     .rw[nag]at hn;cases hn
    .cases h5
   .simp only[Bool.and_eq_true]at h5
    obtain⟨ho,h5⟩:=h5
    split at h5
    .rename_i hs
     have nag:T.agg=false:=by rw[<-hd]
     refine⟨hinf,(nof ho).1,(nof ho).2,fun e' cs' _ hs'=>?_,fun e' cs' _ hs'=>?_,fun e' k _ hs'=>?_,fun k _ hs'=>?_,fun _ hs'=>?_,fun _ hs'=>?_,fun hn=>?_,hone,hfty⟩
     .rw[hs]at hs';cases hs'
     .rw[hs]at hs';cases hs'
     .rw[hs]at hs';cases hs'
     .rw[hs]at hs';cases hs'
     .exact hu
     .rw[hs]at hs';cases hs'
     .rw[nag]at hn;cases hn
    .cases h5
   .cases h5
 .cases h
end
end
section
noncomputable section

inductive Iter {D O:Type} (B:D->Option (D⊕O)):D->O->Prop
 |more {d d':D} {o:O} (h:B d=some (.inl d')) (t:Iter B d' o):Iter B d o
 |done {d:D} {o:O} (h:B d=some (.inr o)):Iter B d o
theorem Iter.uniq {D O:Type} {B:D->Option (D⊕O)} {d:D} {o o':O} (h:Iter B d o) (k:Iter B d o'):o=o':=by
 induction h with
 |more h t ih=>
  cases k with
  |more h' t'=>rw[h]at h';cases h';exact ih t'
  |done h'=>rw[h]at h';cases h'
 |done h=>
  cases k with
  |more h' t'=>rw[h]at h';cases h'
  |done h'=>rw[h]at h';cases h';rfl
open Classical in
def Bb {D O:Type} (B:D->Option (D⊕O)) (d:D):Option O:=if h: ∃o,Iter B d o then some h.choose else none
theorem Id {D O:Type} {B:D->Option (D⊕O)} {d:D} {o:O} (h:Bb B d=some o):Iter B d o:=by
 unfold Bb at h
 split at h
 .rename_i hx;simp at h;subst h;exact hx.choose_spec
 .cases h
theorem P1 {D O:Type} {B:D->Option (D⊕O)} {d:D} {o:O} (h:Iter B d o):Bb B d=some o:=by
 unfold Bb
 have hx: ∃o,Iter B d o:=⟨o,h⟩
 rw[dif_pos hx,hx.choose_spec.uniq h]
theorem Cm {D O:Type} (B:D->Option (D⊕O)) (d:D):Bb B d=match B d with|none=>none|some (.inl d')=>Bb B d'|some (.inr o)=>some o:=by
 cases hb:B d with
 |none=>
  cases h:Bb B d with
  |none=>rfl
  |some o=>
   have:=Id h
   cases this with
   |more h' _=>rw[hb]at h';cases h'
   |done h'=>rw[hb]at h';cases h'
 |some x=>
  cases x with
  |inr o=>exact P1 (.done hb)
  |inl d'=>
   simp only
   cases h:Bb B d' with
   |some o=>exact P1 (.more hb (Id h))
   |none=>
    cases h2:Bb B d with
    |none=>rfl
    |some o=>
     have:=Id h2
     cases this with
     |more h' t=>rw[hb]at h';cases h';rw[P1 t]at h;cases h
     |done h'=>rw[hb]at h';cases h'
def Ex.beq:Ex->Ex->Bool
 | .normal,.normal=>true
 | .exit i,.exit j=>Nat.beq i j
 | .ret,.ret=>true
 |_,_=>false
theorem Ex.eq_of_beq {a b:Ex} (h:Ex.beq a b=true):a=b:=by
 unfold Ex.beq at h
 split at h
 .rfl
 .rw[Nat.eq_of_beq_eq_true h]
 .rfl
 .cases h
@[reducible] def Ik:List (Ex×Sk)->Type
 |[]=>Unit
 |[x]=>x.2.den
 |x::y::r=>x.2.den⊕Ik (y::r)
def P2 (z:Nat):(xs:List (Ex×Sk))->Ex->St->Option (Ik xs)
 |[],_,_=>none
 |[x],e,s=>cond (Ex.beq x.1 e) (x.2.fit z s) none
 |x::y::r,e,s=>cond (Ex.beq x.1 e) (ob (x.2.fit z s) fun d=>some (.inl d)) (ob (P2 z (y::r) e s) fun d=>some (.inr d))
def Jc:(xs:List (Ex×Sk))->Ik xs->Tree (Ex×St)
 |[],_=>.fail
 |[x],d=>.leaf (x.1,x.2.mk' d)
 |x::y::r,o=>.sm o (fun d=>.leaf (x.1,x.2.mk' d)) fun o'=>Jc (y::r) o'
theorem O4 {z:Nat} {e e':Ex} {s st':St}: ∀ {xs:List (Ex×Sk)} {o:Ik xs},P2 z xs e s=some o->(Jc xs o).val=some (e',st')->e'=e/\ ∃k,st'=Zg k z s
 |[],o,h,_=>by cases h
 |[x],o,h,k=>by
  simp only[P2]at h
  cases hb:Ex.beq x.1 e with
  |false=>rw[hb]at h;cases h
  |true=>
   rw[hb]at h
   have hf:x.2.fit z s=some o:=h
   simp[Jc,Tree.val,Tree.run]at k
   obtain⟨rfl,rfl⟩:=k
   exact⟨Ex.eq_of_beq hb,x.2,(Mc hf).symm⟩
 |x::y::r,o,h,k=>by
  simp only[P2]at h
  cases hb:Ex.beq x.1 e with
  |false=>
   rw[hb]at h
   obtain⟨o',ho',h⟩:=Ab (show ob (P2 z (y::r) e s) (fun d=>some (Sum.inr d))=some o from h)
   simp at h;subst h
   exact O4 ho' k
  |true=>
   rw[hb]at h
   obtain⟨d,hd,h⟩:=Ab (show ob (x.2.fit z s) (fun d=>some (Sum.inl d))=some o from h)
   simp at h;subst h
   simp[Jc,Tree.val,Tree.run,sm]at k
   obtain⟨rfl,rfl⟩:=k
   exact⟨Ex.eq_of_beq hb,x.2,(Mc hd).symm⟩
def bod (g:Cfg) (np nt:Nat) (Λ:Hq) (body:Code) (sk:Sk) (z:Nat) (xs:List (Ex×Sk)) (d:sk.den):Option (sk.den⊕Ik xs):=
 pex g np nt Λ body (sk.mk' d) fun e s=>match e with
  | .normal=>ob (sk.fit z s) fun d'=>some (.inl d')
  |e=>ob (P2 z xs e s) fun o=>some (.inr o)
def lam (sk:Sk) (z:Nat) (xs:List (Ex×Sk)) (B:sk.den->Option (sk.den⊕Ik xs)) (st:St):Tree (Ex×St):=
 match sk.fit z st with
 |some d=>.ob (Bb B d) fun o=>Jc xs o
 |none=>.fail
theorem Ac2 {P:Program} {g:Cfg} (hC:CfgOk P g) {cx:Cx} {np nt:Nat} (hpin:cx.pin.length<=np) {Λ:Hq} {body:Code} (hL: ∀b,b∈B6 body->Kn P cx nt Λ b) {sk:Sk} {z:Nat} {xs:List (Ex×Sk)} {B:sk.den->Option (sk.den⊕Ik xs)}
  (hB: ∀d r,B d=some r->bod g np nt Λ body sk z xs d=some r) {d:sk.den} {o:Ik xs} (h:Iter B d o):
  ∀ {gh:Gh} {a:Act} {w:World},RM cx gh (sk.mk' d) w->Env nt cx gh (sk.mk' d) a-> ∀(e':Ex) (st':St),(Jc xs o).val=some (e',st')-> ∀(b:Frame) (k:List Item) (cs:List Frame),
   ∃ex a' w',(∃gh',RM cx gh' st' w'/\Env nt cx gh' st' a'/\ex=e'.out)/\Arrives P (lone (b.at a (.code body:: .inLoop body::k)) cs w) b k cs ex a' w':=by
 induction h with
 | @more d d' o h t ih=>
  intro gh a w hM hE e' st' hs b k cs
  have hw:=I9 hC hpin (Q:=fun ex a' w'=>ex= .normal/\ ∃gh',RM cx gh' (sk.mk' d') w'/\Env nt cx gh' (sk.mk' d') a') hM hE (hB _ _ h) hL (fun e gh' st' a' w' m en hr=>by
   cases e with
   |normal=>
    obtain⟨x,hx,hr⟩:=Ab hr
    simp only[Option.some.injEq,Sum.inl.injEq]at hr
    subst hr
    refine⟨rfl,?_⟩
    rw[<-Mc hx]
    exact Nu sk z _ _ _ _ _ _ m en
   |exit i=>obtain⟨x,hx,hr⟩:=Ab hr;simp at hr
   |ret=>obtain⟨x,hx,hr⟩:=Ab hr;simp at hr)
  obtain⟨ex,a1,w1,⟨rfl,gh1,m1,e1⟩,harr⟩:=hw b (.inLoop body::k) cs
  obtain⟨ex2,a2,w2,hq,harr2⟩:=ih m1 e1 e' st' hs b k cs
  exact⟨ex2,a2,w2,hq,.of_steps (Steps.trans harr (.one step_inLoop)) harr2⟩
 | @done d o h=>
  intro gh a w hM hE e' st' hs b k cs
  have fin: ∀ {e:Ex} {gh':Gh} {st1:St} {a':Act} {w':World},RM cx gh' st1 w'->Env nt cx gh' st1 a'->ob (P2 z xs e st1) (fun o=>some (Sum.inr (α:=sk.den) o))=some (.inr o)->e'=e/\ ∃gh2,RM cx gh2 st' w'/\Env nt cx gh2 st' a':=fun {e gh' st1 a' w'} m en hr=>by
   obtain⟨x,hx,hr⟩:=Ab hr
   simp only[Option.some.injEq,Sum.inr.injEq]at hr
   subst hr
   obtain⟨he,kk,hk⟩:=O4 hx hs
   refine⟨he,?_⟩
   rw[hk]
   exact Nu kk z _ _ _ _ _ _ m en
  have hw:=I9 hC hpin (Q:=fun ex a' w'=>ex=e'.out/\e'≠ .normal/\ ∃gh',RM cx gh' st' w'/\Env nt cx gh' st' a') hM hE (hB _ _ h) hL (fun e gh' st1 a' w' m en hr=>by
   cases e with
   |normal=>obtain⟨x,hx,hr⟩:=Ab hr;simp at hr
   |exit i=>obtain⟨rfl,h2⟩:=fin m en hr;exact⟨rfl,by simp,h2⟩
   |ret=>obtain⟨rfl,h2⟩:=fin m en hr;exact⟨rfl,by simp,h2⟩)
  obtain⟨ex,a1,w1,⟨rfl,hne,gh1,m1,e1⟩,harr⟩:=hw b (.inLoop body::k) cs
  refine⟨e'.out,a1,w1,⟨gh1,m1,e1,rfl⟩,?_⟩
  cases e' with
  |normal=>exact(hne rfl).elim
  |exit i=>exact .pass (x:=.inLoop body) rfl (fun _ _=>.inl (by simp[Ex.out])) harr
  |ret=>exact .pass (x:=.inLoop body) rfl (fun _ _=>.inl (by simp[Ex.out])) harr
theorem Ab4 {P:Program} {g:Cfg} (hC:CfgOk P g) {cx:Cx} {np nt:Nat} (hpin:cx.pin.length<=np) {Λ:Hq} {body:Code} (hL: ∀b,b∈B6 body->Kn P cx nt Λ b) {sk:Sk} {z:Nat} {xs:List (Ex×Sk)} {B:sk.den->Option (sk.den⊕Ik xs)}
  (hΛ:Λ (Et body)=lam sk z xs B) (hB: ∀d,bod g np nt Λ body sk z xs d=B d):Kn P cx nt Λ body:=by
 intro st e st' gh a w hv hm he b k cs
 rw[hΛ]at hv
 unfold lam at hv
 split at hv
 .rename_i d hd
  cases ho:Bb B d with
  |none=>rw[ho]at hv;cases hv
  |some o=>
   rw[ho]at hv
   have hs:(Jc xs o).val=some (e,st'):=hv
   obtain⟨gh1,m1,e1⟩:=Nu sk z cx gh st a w nt hm he
   rw[Mc hd]at m1 e1
   obtain⟨ex,a',w',hq,harr⟩:=Ac2 hC hpin hL (fun d r h=>(hB d).trans h) (Id ho) m1 e1 e st' hs b k cs
   exact⟨ex,a',w',hq,.of_steps (.one step_loop) harr⟩
 .cases hv
@[reducible] def En:List (Bool×List Sh)->Type
 |[]=>Unit
 |p::r=>dens p.2×En r
def sgs:(cs:List Sh)->dens cs->List Sg
 |[],_=>[]
 |s::r,d=>⟨s,d.1⟩::sgs r d.2
def rv (p:Bool×List Sh) (d:dens p.2):RV:=(p.1,sgs p.2 d)
def mkA:(ps:List (Bool×List Sh))->En ps->List RV
 |[],_=>[]
 |p::r,d=>rv p d.1::mkA r d.2
def Sb (s:Sh) (x:Sg):Option s.den:=if h:x.sh=s then some (h▸x.val)else none
def unS:(cs:List Sh)->List Sg->Option (dens cs)
 |[],[]=>some ()
 |s::r,x::xs=>ob (Sb s x) fun d=>ob (unS r xs) fun e=>some (d,e)
 |_,_=>none
def unA:(ps:List (Bool×List Sh))->List RV->Option (En ps)
 |[],[]=>some ()
 |p::r,x::xs=>chk (p.1==x.1) (ob (unS p.2 x.2) fun d=>ob (unA r xs) fun e=>some (d,e))
 |_,_=>none
theorem Aam {s:Sh} {x:Sg} {d:s.den} (h:Sb s x=some d):x=⟨s,d⟩:=by
 unfold Sb at h
 split at h
 .rename_i e
  obtain⟨sh,v⟩:=x
  simp only at e
  subst e
  simp at h;subst h;rfl
 .cases h
theorem Vg: ∀ {cs:List Sh} {xs:List Sg} {d:dens cs},unS cs xs=some d->xs=sgs cs d
 |[],[],d,h=>rfl
 |s::r,x::xs,d,h=>by
  simp only[unS]at h
  obtain⟨v,hv,h⟩:=Ab h
  obtain⟨e,he,h⟩:=Ab h
  simp only[Option.some.injEq]at h
  subst h
  rw[Aam hv,Vg he];rfl
 |[],_::_,d,h=>by simp[unS]at h
 |_::_,[],d,h=>by simp[unS]at h
theorem Vh: ∀ {ps:List (Bool×List Sh)} {xs:List RV} {d:En ps},unA ps xs=some d->xs=mkA ps d
 |[],[],d,h=>rfl
 |p::r,x::xs,d,h=>by
  simp only[unA]at h
  obtain⟨hb,h⟩:=Ae h
  obtain⟨v,hv,h⟩:=Ab h
  obtain⟨e,he,h⟩:=Ab h
  simp only[Option.some.injEq]at h
  subst h
  obtain⟨b,ys⟩:=x
  have hb:p.1=b:=by simpa using hb
  subst hb
  have h1:=Vg hv
  simp only at h1
  subst h1
  rw[Vh he];rfl
 |[],_::_,d,h=>by simp[unA]at h
 |_::_,[],d,h=>by simp[unA]at h
def A6 (ps:List (Bool×List Sh)) {R:Type} (V:En ps->Option R) (rvs:R->List RV×List RV):A7:=fun as=>match unA ps as with
 |some d=>.ob (V d) fun r=>.leaf (rvs r)
 |none=>.fail
theorem P3 {ps:List (Bool×List Sh)} {R:Type} {V:En ps->Option R} {rvs:R->List RV×List RV} {as:List RV} {r:List RV×List RV} (h:(A6 ps V rvs as).val=some r): ∃d x,as=mkA ps d/\V d=some x/\rvs x=r:=by
 unfold A6 at h
 split at h
 .rename_i d hd
  cases hv:V d with
  |none=>rw[hv]at h;cases h
  |some x=>rw[hv]at h;exact⟨d,x,Vh hd,hv,by simpa [Tree.val,Tree.run,ob] using h⟩
 .cases h
theorem Ac3 {α ρ:Type} (t:Tree α) (k:α->Option ρ):t.run k=ob t.val k:=by
 unfold Tree.val
 rw[Fs];rfl
structure Fn (P:Program) (f:FuncId) (kd:Kind) (F:A7):Prop where
 does:Rv P f kd F
 fn: ∃X,P.funcs[f]? =some X/\(X.name== "runtime.NumGoroutine")=false/\X.body.isSome=true
theorem Ab1 {P:Program} {g:Cfg} (hC:CfgOk P g) {np:Nat} {Λ:Hq} {f:FuncId} {fn:Func} {kd:Kind} (hf:P.funcs[f]? =some fn) (hn:(fn.name== "runtime.NumGoroutine")=false) (hb:fn.body.isSome=true)
  (hL: ∀cx b,cx.pin.length<=np->b∈B6 (fn.body.getD .skip)->Kn P cx fn.ntmps Λ b) {ps:List (Bool×List Sh)} {R:Type} {T:En ps->Tree R} {rvs:R->List RV×List RV}
  (h: ∀d,H6 g np Λ fn kd (mkA ps d)=(T d).run fun r=>some (rvs r)):Fn P f kd (A6 ps (fun d=>(T d).val) rvs):=
 ⟨Abu hC hf hL (fun as res hv=>by
  obtain⟨d,x,rfl,h1,h2⟩:=P3 hv
  rw[h d,Ac3,h1]
  show some (rvs x)=some res
  rw[h2]),fn,hf,hn,hb⟩
abbrev Fns:=List (Nat×Kind×A7)
def Hp:Fns->Ctr
 |[],_,_=>.fail
 |(j,_,F)::r,f,vs=>cond (Nat.beq f j) (F vs) (Hp r f vs)
def Gg:Fns->Nat->Kind
 |[],_=>.plain
 |(j,k,_)::r,f=>cond (Nat.beq f j) k (Gg r f)
def P7 (P:Program):Fns->Prop
 |[]=>True
 |(f,k,F)::r=>Fn P f k F/\P7 P r
theorem P4 {P:Program}: ∀ {l:Fns},P7 P l-> ∀f,Rv P f (Gg l f) (Hp l f)/\ ∀vs r,(Hp l f vs).val=some r-> ∃X,P.funcs[f]? =some X/\(X.name== "runtime.NumGoroutine")=false/\X.body.isSome=true
 |[],_,f=>⟨(fun as res vals w G h=>by cases (show(none:Option (List RV×List RV))=some res from h)),(fun vs r h=>by cases (show(none:Option (List RV×List RV))=some r from h))⟩
 |(j,k,F)::l,h,f=>by
  have ih:=P4 h.2 f
  cases hb:Nat.beq f j with
  |true=>
   have e:=Nat.eq_of_beq_eq_true hb
   subst e
   have hc:Hp ((f,k,F)::l) f=F:=funext fun vs=>by simp[Hp]
   have hk:Gg ((f,k,F)::l) f=k:=by simp[Gg]
   rw[hc,hk]
   exact⟨h.1.does,fun vs r hv=>h.1.fn⟩
  |false=>
   have hc:Hp ((j,k,F)::l) f=Hp l f:=funext fun vs=>by simp[Hp,hb]
   have hk:Gg ((j,k,F)::l) f=Gg l f:=by simp[Gg,hb]
   rw[hc,hk]
   exact ih
def P6:List (Nat×Ty)->Nat->Option Ty
 |[],_=>none
 |(j,T)::r,t=>cond (Nat.beq t j) (some T) (P6 r t)
def W3 (P:Program) (l:List (Nat×Ty)):Bool:=l.all fun p=>Zh P p.1 p.2
theorem Vi {P:Program}: ∀ {l:List (Nat×Ty)},W3 P l=true-> ∀ {t T},P6 l t=some T->TyOk P t T
 |[],_,t,T,h=>by cases h
 |(j,X)::l,hb,t,T,h=>by
  simp only[W3,List.all_cons,Bool.and_eq_true]at hb
  simp only[P6]at h
  cases hj:Nat.beq t j with
  |true=>
   rw[hj]at h
   simp at h;subst h
   rw[Nat.eq_of_beq_eq_true hj]
   exact Ac1 hb.1
  |false=>
   rw[hj]at h
   exact Vi (l:=l) hb.2 h
theorem O5 {P:Program} {tys:List (Nat×Ty)} {l:Fns} {i b:Nat} (hm:P.follows .mixedOrders=true) (ht:W3 P tys=true) (hl:P7 P l):CfgOk P ⟨P6 tys,Hp l,Gg l,i,b⟩:=
 ⟨hm,fun t T h=>Vi ht h,fun f=>(P4 hl f).1,fun f vs r h=>(P4 hl f).2 vs r h⟩
end
end
section
noncomputable section

open Classical in
end
end
section
noncomputable section
def Ac (l:List Nat):ByteArray:=⟨(l.map UInt8.ofNat).toArray⟩
def P5:Code->List Code
 | .seq a b=>P5 a++P5 b
 | .cond _ a b=>P5 a++P5 b
 | .block _ a=>P5 a
 | .loop a=>a::P5 a
 |_=>[]
def Nw (fn:Func) (i:Nat):Code:=(P5 (fn.body.getD .skip)).getD i .skip
def Adx {α:Type} (p:α->Prop):List α->Prop
 |[]=>True
 |a::r=>p a/\Adx p r
theorem Zj {α:Type} {p:α->Prop} {l l':List α} (e:l=l') (h:Adx p l'): ∀b,b∈l->p b:=by
 subst e
 induction l with
 |nil=>intro b hb;cases hb
 |cons a r ih=>
  intro b hb
  rcases List.mem_cons.1 hb with rfl|hb
  .exact h.1
  .exact ih h.2 b hb
end
end
section
open Go.ChangeShapes Go.WideShapes Go.ChangeAt Go.RowKit
noncomputable section

def RcD (G:Ad):(cs:List Sh)->dens cs->List Value->Prop
 |[],_,vs=>vs=[]
 |s::r,d,vs=>∃v t,vs=v::t/\RdD G s d.1 v/\RcD G r d.2 t
theorem RcD.len {G:Ad}: ∀ {cs:List Sh} {d:dens cs} {vs:List Value},RcD G cs d vs->vs.length=cs.length
 |[],_,_,h=>by simp only[RcD]at h;simp[h]
 |s::r,d,vs,h=>by
  simp only[RcD]at h
  obtain⟨v,t,rfl,_,h2⟩:=h
  simp[RcD.len h2]
theorem RcD.app {G:Ad}: ∀ {a b:List Sh} {d:dens a} {e:dens b} {xs ys:List Value},RcD G a d xs->RcD G b e ys-> ∃f:dens (a++b),RcD G (a++b) f (xs++ys)
 |[],b,d,e,xs,ys,h,k=>by
  simp only[RcD]at h
  subst h
  exact⟨e,k⟩
 |s::r,b,d,e,xs,ys,h,k=>by
  simp only[RcD]at h
  obtain⟨v,t,rfl,h1,h2⟩:=h
  obtain⟨f,hf⟩:=RcD.app h2 k
  exact⟨((d.1,f):s.den×dens (r++b)),by simp only[List.cons_append,RcD];exact⟨v,_,rfl,h1,hf⟩⟩
theorem RcD.at {G:Ad}: ∀ {cs:List Sh} {d:dens cs} {vs:List Value} {b o:Nat},RcD G cs d vs->(∀(j:Nat) (v:Value),vs[j]? =some v->G b (o+j)=some v)->Bg G cs d b o
 |[],_,_,_,_,_,_=>by simp only[Bg]
 |s::r,d,vs,b,o,h,k=>by
  simp only[RcD]at h
  obtain⟨v,t,rfl,h1,h2⟩:=h
  simp only[Bg]
  refine⟨⟨v,by simpa using k 0 v rfl,h1⟩,RcD.at h2 (fun j x hj=>?_)⟩
  have:=k (j+1) x (by simpa using hj)
  rw[show o+1+j=o+(j+1) by omega];exact this
theorem RcD.rvs {G:Ad}: ∀ {cs:List Sh} {d:dens cs} {vs:List Value},RcD G cs d vs->RVs G (sgs cs d) vs
 |[],_,_,h=>by simp only[RcD]at h;subst h;trivial
 |s::r,d,vs,h=>by
  simp only[RcD]at h
  obtain⟨v,t,rfl,h1,h2⟩:=h
  exact⟨h1,RcD.rvs h2⟩
def OpT (P:Program) (t:TypeId) (cs:List Sh):Prop:=
 ∀(H:Type) (enc:TypeId×Value->H) (w:World) (base:Nat) (sp:Nat->Bool) (held:Bool) (fuel:Nat) (vs:List Value) (x:DataW H×List MemPlace),
  DataW.trod enc P w base sp held fuel t vs=some x-> ∃d:dens cs,RcD (Av (Fw w)) cs d vs
theorem Ac4 {P:Program} {t:TypeId} {k:IntKind} (ht:P.underlying t=some (.int k)):OpT P t [.int k]:=by
 intro H enc w base sp held fuel vs x h
 obtain⟨n,h1,_,h2⟩:=DataW.trod_int ht h
 exact⟨((n,()):Int×Unit),by simp only[RcD,RdD];exact⟨_,_,h1,⟨rfl,h2⟩,rfl⟩⟩
theorem Abz {P:Program} {t:TypeId} (ht:P.underlying t=some .bool):OpT P t [.bool]:=by
 intro H enc w base sp held fuel vs x h
 obtain⟨n,h1,_⟩:=DataW.trod_bool ht h
 exact⟨((n,()):Bool×Unit),by simp only[RcD,RdD];exact⟨_,_,h1,rfl,rfl⟩⟩
theorem Ac5 {P:Program} {t:TypeId} (ht:P.underlying t=some .string):OpT P t [.str]:=by
 intro H enc w base sp held fuel vs x h
 obtain⟨n,h1,_⟩:=DataW.trod_string ht h
 exact⟨((n,()):ByteArray×Unit),by simp only[RcD,RdD];exact⟨_,_,h1,rfl,rfl⟩⟩
theorem Aan {P:Program} {t e:TypeId} {cs:List Sh} (ht:P.underlying t=some (.slice e)) (hc:P.cellsOf e=cs.length) (h0:0<cs.length) (he:OpT P e cs):OpT P t [.sl e cs]:=by
 intro H enc w base sp held fuel vs x h
 have he':Xp P e (fun f vs (d:dens cs)=>RcD (Av f) cs d vs):=he
 obtain⟨l,p,c,rfl,css,⟨a,cap,e1,h1,h2,h3⟩,hl,hel⟩:=V3 ht hc h0 he' H enc w base sp held fuel vs x h
 cases e1
 refine⟨((l,()):List (dens cs)×Unit),?_⟩
 simp only[RcD,RdD]
 have hlen: ∀c∈css,c.length=cs.length:=fun c hc=>by
  obtain⟨i,hi⟩:=List.getElem?_of_mem hc
  have hlt:i<l.length:=by rw[<-hl];exact(List.getElem?_eq_some_iff.1 hi).1
  exact(hel i c _ hi (List.getElem?_eq_getElem hlt)).1
 refine⟨_,_,rfl,⟨p,c,rfl,h1,h2,fun ha=>by subst ha;exact h3.1,fun i d hd=>?_⟩,rfl⟩
 have hi:i<css.length:=by rw[hl];exact(List.getElem?_eq_some_iff.1 hd).1
 have hci:css[i]? =some css[i]:=List.getElem?_eq_getElem hi
 obtain⟨k1,k2⟩:=hel i _ d hci hd
 cases p with
 |none=>
  obtain⟨_,hn⟩:=h3
  have hm:css[i]∈css:=List.getElem_mem hi
  have:css[i]=[]:=by
   have:=List.flatten_eq_nil_iff.1 hn _ hm
   exact this
  rw[this]at k1
  simp at k1;omega
 |some ad=>
  have hcell: ∀(j:Nat) (v:Value),css[i][j]? =some v->ad.spot=none/\Av (Fw w) ad.block (ad.off+i*cs.length+j)=some v:=fun j v hv=>by
   have hj:j<cs.length:=by rw[<-k1];exact(List.getElem?_eq_some_iff.1 hv).1
   have hg:=Bz hlen hci hj
   have:=h3 (i*cs.length+j) v (hg.trans hv)
   exact⟨this.1,by unfold Av;rw[Nat.add_assoc];exact this.2⟩
  have hs:=(hcell 0 _ (List.getElem?_eq_getElem (by rw[k1];exact h0))).1
  refine⟨ad.block,ad.off,?_,RcD.at k2 (fun j v hv=>(hcell j v hv).2)⟩
  cases ad
  simp only at hs
  subst hs;rfl
def Vj (P:Program) (f:TypeId->Option (List Sh)):List Field->Nat->Option (List Sh)
 |[],_=>some []
 |fd::r,off=>if fd.offset=off then match f fd.type with
  |some cs=>if P.cellsOf fd.type=cs.length then(match Vj P f r (off+cs.length)with|some ds=>some (cs++ds)|none=>none)else none
  |none=>none else none
def Sc (P:Program):Nat->TypeId->Option (List Sh)
 |0,_=>none
 |n+1,t=>match P.underlying t with
  |some (.int k)=>some [.int k]
  |some .bool=>some [.bool]
  |some .string=>some [.str]
  |some (.slice e)=>match Sc P n e with
   |some cs=>if P.cellsOf e=cs.length/\0<cs.length then some [.sl e cs]else none
   |none=>none
  |some (.struct fs)=>match Vj P (Sc P n) fs.toList 0 with
   |some cs=>if P.cellsOf t=cs.length then some cs else none
   |none=>none
  |_=>none
theorem W1 {P:Program} {f:TypeId->Option (List Sh)} (hf: ∀t cs,f t=some cs->OpT P t cs) {H:Type} {enc:TypeId×Value->H} {w:World} {base:Nat} {sp:Nat->Bool} {held:Bool} {n:Nat} {vs:List Value}:
  ∀ {fs:List Field} {off:Nat} {cs:List Sh},Vj P f fs off=some cs->off+cs.length<=vs.length->(∀fd,fd∈fs-> ∃x,DataW.trod enc P w base sp held n fd.type ((vs.drop fd.offset).take (P.cellsOf fd.type))=some x)->
   ∃d:dens cs,RcD (Av (Fw w)) cs d ((vs.drop off).take cs.length)
 |[],off,cs,h,hl,ht=>by
  simp only[Vj]at h
  cases h
  exact⟨(),by simp[RcD]⟩
 |fd::r,off,cs,h,hl,ht=>by
  simp only[Vj]at h
  split at h
  .rename_i ho
   split at h
   .rename_i c1 hc1
    split at h
    .rename_i hcell
     split at h
     .rename_i ds hds
      cases h
      simp only[List.length_append]at hl ⊢
      obtain⟨x,hx⟩:=ht fd (by simp)
      rw[ho,hcell]at hx
      obtain⟨d1,r1⟩:=hf _ _ hc1 _ _ _ _ _ _ _ _ _ hx
      obtain⟨d2,r2⟩:=W1 hf hds (by omega) (fun fd' h'=>ht fd' (by simp[h']))
      obtain⟨d,rd⟩:=RcD.app r1 r2
      refine⟨d,?_⟩
      rw[List.take_add,List.drop_drop]
      exact rd
     .cases h
    .cases h
   .cases h
  .cases h
theorem Sd {P:Program}: ∀ {n:Nat} {t:TypeId} {cs:List Sh},Sc P n t=some cs->OpT P t cs
 |0,t,cs,h=>by cases h
 |n+1,t,cs,h=>by
  simp only[Sc]at h
  split at h
  .rename_i k hk;cases h;exact Ac4 hk
  .rename_i hk;cases h;exact Abz hk
  .rename_i hk;cases h;exact Ac5 hk
  .rename_i e hk
   split at h
   .rename_i c hc
    split at h
    .rename_i hh;cases h;exact Aan hk hh.1 hh.2 (Sd hc)
    .cases h
   .cases h
  .rename_i fs hk
   split at h
   .rename_i c hc
    split at h
    .rename_i hh
     cases h
     intro H enc w base sp held fuel vs x hx
     obtain⟨xs,m,_,_,hl,hlen,hf⟩:=DataW.trod_struct hk hx
     have hle:0+cs.length<=vs.length:=by omega
     obtain⟨d,hd⟩:=W1 (fun t cs h=>Sd h) (enc:=enc) (w:=w) (base:=base) (sp:=sp) (held:=held) (n:=m) (vs:=vs) hc hle (fun fd hfd=>by
      obtain⟨i,hi⟩:=List.getElem?_of_mem hfd
      have hi':fs[i]? =some fd:=by simpa using hi
      have h2:=hf i fd hi'
      have hlt:i<xs.length:=by rw[hlen];exact(Array.getElem?_eq_some_iff.1 hi').1
      rw[List.getElem?_eq_getElem hlt]at h2
      exact⟨_,h2⟩)
     refine⟨d,?_⟩
     have:(vs.drop 0).take cs.length=vs:=by
      have hle2:vs.length<=cs.length:=by omega
      rw[List.drop_zero,List.take_of_length_le hle2]
     rw[this]at hd
     exact hd
    .cases h
   .cases h
  .cases h
def Ady (P:Program) (t:TypeId) (p:Bool×List Sh):Bool:=
 (match Sc P 12 t with|some cs=>Sh.beqs cs p.2|none=>false) && (match P.underlying t with
  |some (.struct _)=>p.1
  |some (.slice _)=> !p.1
  |some (.int _)=> !p.1
  |some .bool=> !p.1
  |_=>false)
theorem Adf {P:Program} {t:TypeId} {p:Bool×List Sh} (hb:Ady P t p=true) {H:Type} {enc:TypeId×Value->H} {w:World} {base b0:Nat} {r:Reach} {sp:Nat->Bool} {held:Bool} {v:Value} {dd:DataW H} {pl:List MemPlace}
  (hval:Value.okWide P w r b0 t v) (ht:DataW.Trod enc P w base sp held t v dd pl): ∃d:dens p.2,RVv (Av (Fw w)) (rv p d) v:=by
 unfold Ady at hb
 rw[Bool.and_eq_true]at hb
 obtain⟨h1,h2⟩:=hb
 cases hs:Sc P 12 t with
 |none=>rw[hs]at h1;cases h1
 |some cs=>
  rw[hs]at h1
  have e:=Sh.eq_of_beqs _ _ h1
  subst e
  obtain⟨fu,hf⟩:=ht
  obtain⟨d,hd⟩:=Sd hs _ _ _ _ _ _ _ _ _ hf
  refine⟨d,?_⟩
  have one:v.cells.toList=[v]->p.1=false->RVv (Av (Fw w)) (rv p d) v:=fun hc hp=>by
   unfold RVv rv
   rw[hp]
   rw[hc]at hd
   exact hd.rvs
  split at h2
  .rename_i fs hk
   obtain⟨c,rfl,_⟩:=okWide_struct hk hval
   unfold RVv rv
   rw[h2]
   exact⟨c.toList,by simp,hd.rvs⟩
  .rename_i e hk
   obtain⟨z,len,cap,rfl⟩:=okWide_slice hk hval
   exact one rfl (by simpa using h2)
  .rename_i k hk
   obtain⟨n,rfl⟩:=okWide_int hk hval
   exact one rfl (by simpa using h2)
  .rename_i hk
   obtain⟨n,rfl⟩:=okWide_bool hk hval
   exact one rfl (by simpa using h2)
  .cases h2
theorem W2: ∀(cs:List Sh) (d:dens cs),unS cs (sgs cs d)=some d
 |[],_=>rfl
 |s::r,d=>by
  have h1:Sb s ⟨s,d.1⟩=some d.1:=by unfold Sb;rw[dif_pos rfl]
  have h2:=W2 r d.2
  show ob (Sb s ⟨s,d.1⟩) (fun x=>ob (unS r (sgs r d.2)) fun e=>some (x,e))=some d
  rw[h1,h2];rfl
theorem Se: ∀(ps:List (Bool×List Sh)) (d:En ps),unA ps (mkA ps d)=some d
 |[],_=>rfl
 |p::r,d=>by
  show chk (p.1==p.1) (ob (unS p.2 (sgs p.2 d.1)) fun x=>ob (unA r (mkA r d.2)) fun e=>some (x,e))=some d
  rw[W2,Se r d.2]
  simp[chk,ob]
mutual
def wfD:(s:Sh)->s.den->Prop
 | .int k,n=>(Lit.int k n).wf=true
 | .sl _ cs,l=>l.length<=maxLen/\ ∀(i:Nat) (d:dens cs),l[i]? =some d->Ds cs d
 |_,_=>True
def Ds:(cs:List Sh)->dens cs->Prop
 |[],_=>True
 |s::r,d=>wfD s d.1/\Ds r d.2
end
mutual
theorem RdD.wfD {G:Ad}: ∀(s:Sh) (d:s.den) (v:Value),RdD G s d v->wfD s d
 | .int k,n,v,h=>by simp only[RdD]at h;simp only[YthccfdmiejmbaaaDoor.wfD];exact h.2
 | .bool,_,_,_=>by simp only[YthccfdmiejmbaaaDoor.wfD]
 | .str,_,_,_=>by simp only[YthccfdmiejmbaaaDoor.wfD]
 | .junk,_,_,_=>by simp only[YthccfdmiejmbaaaDoor.wfD]
 | .sl e cs,l,v,h=>by
  simp only[RdD]at h
  simp only[YthccfdmiejmbaaaDoor.wfD]
  obtain⟨a,cap,_,hc1,hc2,_,h4⟩:=h
  refine⟨Nat.le_trans hc1 hc2,fun i d hd=>?_⟩
  obtain⟨b,o,_,h5⟩:=h4 i d hd
  exact Bg.wfD cs d b _ h5
theorem Bg.wfD {G:Ad}: ∀(cs:List Sh) (d:dens cs) (b o:Nat),Bg G cs d b o->Ds cs d
 |[],_,_,_,_=>by simp only[Ds]
 |s::r,d,b,o,h=>by
  simp only[Bg]at h
  obtain⟨⟨v,_,h2⟩,h3⟩:=h
  simp only[Ds]
  exact⟨RdD.wfD s d.1 v h2,Bg.wfD r d.2 b _ h3⟩
end
def WfA:(ps:List (Bool×List Sh))->En ps->Prop
 |[],_=>True
 |p::r,d=>Ds p.2 d.1/\WfA r d.2
theorem RVs.wf {G:Ad}: ∀ {cs:List Sh} {d:dens cs} {vs:List Value},RVs G (sgs cs d) vs->Ds cs d
 |[],_,_,_=>by simp only[Ds]
 |s::r,d,[],h=>by simp[sgs,RVs]at h
 |s::r,d,v::vs,h=>by
  simp only[Ds]
  exact⟨RdD.wfD s d.1 v h.1,RVs.wf h.2⟩
theorem RVv.wf {G:Ad} {p:Bool×List Sh} {d:dens p.2} {v:Value} (h:RVv G (rv p d) v):Ds p.2 d:=by
 unfold RVv rv at h
 cases hp:p.1 with
 |true=>simp only[hp]at h;obtain⟨vs,_,h⟩:=h;exact h.wf
 |false=>simp only[hp]at h;exact RVs.wf h
theorem RVa.wf {G:Ad}: ∀ {ps:List (Bool×List Sh)} {d:En ps} {vs:List Value},RVa G (mkA ps d) vs->WfA ps d
 |[],_,_,_=>trivial
 |p::r,d,[],h=>by simp[mkA,RVa]at h
 |p::r,d,v::vs,h=>⟨RVv.wf h.1,RVa.wf h.2⟩
theorem Aa5 {P:Program} {f:FuncId} {ps:List (Bool×List Sh)} {R:Type} {V:En ps->Option R} {rvs:R->List RV×List RV} {r:R} (hF:Fn P f .plain (A6 ps V rvs)) (hr:rvs r=([(false,[⟨.bool,true⟩])],[])) (hV: ∀d,WfA ps d->V d=some r)
  {w:World} {vs:List Value} {d:En ps} (htb:TOk w Aa.emp) (h:RVa (Av (Fw w)) (mkA ps d) vs):Calls P f vs.toArray w (Ret w (.bool true)):=by
 have hd:(A6 ps V rvs (mkA ps d)).val=some (rvs r):=by
  unfold A6
  cases hu:unA ps (mkA ps d)with
  |none=>rw[Se]at hu;cases hu
  |some d'=>
   have e:d'=d:=Option.some.inj (hu.symm.trans (Se ps d))
   subst e
   simp only[Tree.val,Tree.run,ob,hV _ h.wf]
 refine(hF.does (mkA ps d) _ vs w (Av (Fw w)) hd (fun b o v hv=>?_) htb h).mono ?_
 .unfold Av Aa.cell Fw at hv
  cases e:w.heap[b]? with
  |none=>rw[e]at hv;cases hv
  |some ob'=>
   rw[e]at hv
   cases ob'<;>simp at hv
   simp[World.cell?,e,hv]
 .rintro e w' ⟨v,f,rfl,g,hl,hf,hO⟩
  rw[hr]at hO
  refine Ret.mk ?_ g
  simp only[D9,OVv,OVs]at hO
  obtain⟨_,_,_,h1,_⟩:=hO
  simpa only[Af] using h1
end
end
section
noncomputable section
section
variable {α β γ ρ:Type}
theorem Ah (x:α):(Tree.leaf x).val=some x:=rfl
theorem A5 (b:Bool) (t:Tree α):(Tree.chk b t).val=chk b t.val:=rfl
theorem Ao (b:Bool) (t f:Tree α):(Tree.br b t f).val=br b t.val f.val:=rfl
theorem Aw (x:Option β) (f:β->Tree α):(Tree.ob x f).val=ob x fun c=>(f c).val:=rfl
theorem Ey (x:β⊕γ) (f:β->Tree α) (g:γ->Tree α):(Tree.sm x f g).val=sm x (fun c=>(f c).val) fun c=>(g c).val:=rfl
theorem Ap (a:α) (f:α->Option ρ):ob (some a) f=f a:=rfl
theorem Bu (x y:Option ρ):br true x y=x:=rfl
theorem Be (x y:Option ρ):br false x y=y:=rfl
theorem An (x:Option ρ):chk true x=x:=rfl
theorem W7 (b:Bool) (x y:Option ρ):br b x y=if b=true then x else y:=by cases b<;>rfl
theorem Ad3 (l:List α) (n:Int) (h0:0<=n) (i:Nat) (hi:n=i):idx l n=l[i]? :=by subst hi;unfold idx;rw[if_pos h0];simp
theorem Adz (l:List α) (i:Nat):idx l (i:Int)=l[i]? :=Ad3 l _ (by omega) i rfl
end
theorem w64 {n:Int} (h: -9223372036854775808<=n/\n<=9223372036854775807):IntKind.i64.wrap n=n:=IntWalk.i64_in n h
theorem Aao {D O:Type} {B:D->Option (D⊕O)} (f:Nat->D) (n:Nat) (r:Option O):(∀i,i<n->B (f i)=some (.inl (f (i+1))))->Bb B (f n)=r->Bb B (f 0)=r:=by
 intro h he
 have key: ∀k,k<=n->Bb B (f (n-k))=r:=by
  intro k
  induction k with
  |zero=>intro _;exact he
  |succ k ih=>
   intro hk
   rw[Cm,h _ (by omega)]
   simp only
   rw[show n-(k+1)+1=n-k by omega]
   exact ih (by omega)
 simpa using key n (Nat.le_refl _)
end
end
section
noncomputable section
def szR (a:Nat) (n:Int):Int:=if (a:Int)<=n then n-a else-1
theorem Ac7 (a:Nat) (n:Int): -1<=szR a n:=by unfold szR;split<;>omega
theorem Ac8 {a:Nat} {n m:Int} (h:n<=m) (h0: -1<=m):szR a n<=m:=by unfold szR;split<;>omega
theorem Acb (a b:Nat) (n:Int):szR b (szR a n)=szR (a+b) n:=by unfold szR;repeat (first|omega|split)
theorem Ad4 {a b:Nat} {n:Int} (h:a<=b):br (decide (szR a n<0)) (some ((-1:Int),())) (some (szR b n,()))=some (szR b n,()):=by
 rw[W7]
 split
 .rename_i hh
  have hh:szR a n<0:=by simpa using hh
  unfold szR at hh ⊢
  split at hh
  .omega
  .rw[if_neg (by omega)]
 .rfl
theorem Ab6 {E:Type} {B:(List E×List E×Int×Unit)->Option ((List E×List E×Int×Unit)⊕(List E×Unit))} {l:List E} {ok:E->Prop}
  (hs: ∀(m:List E) (i:Nat) x y,l[i]? =some x->i<l.length->m[i]? =some y->B (l,m,(i:Int),())=some (.inl (l,m.set i x,(i:Int)+1,())))
  (he: ∀m,B (l,m,(l.length:Int),())=some (.inr (m,()))) {m:List E} (hm:m.length=l.length):Bb B (l,m,(0:Int),())=some (l,()):=by
 have key: ∀(k i:Nat),i+k=l.length-> ∀m:List E,m.length=l.length->m.take i=l.take i->Bb B (l,m,(i:Int),())=some (l,()):=by
  intro k
  induction k with
  |zero=>
   intro i hi m hm ht
   have e:i=l.length:=by omega
   subst e
   rw[Cm,he]
   have:m=l:=by rw[<-hm,List.take_length,hm,List.take_length]at ht;exact ht
   rw[this]
  |succ k ih=>
   intro i hi m hm ht
   have hlt:i<l.length:=by omega
   have hx:=List.getElem?_eq_getElem hlt
   have hy:m[i]? =some (m[i]'(by omega)):=List.getElem?_eq_getElem (by omega)
   rw[Cm,hs m i _ _ hx hlt hy]
   simp only
   rw[show((i:Int)+1)=((i+1:Nat):Int) by omega]
   refine ih (i+1) (by omega) _ (by simp[hm]) ?_
   apply List.ext_getElem?
   intro j
   have htj: ∀j,j<i->m[j]? =l[j]? :=fun j hj=>by
    have:=congrArg (fun t=>t[j]?) ht
    simpa [List.getElem?_take,hj] using this
   simp only[List.getElem?_take]
   by_cases hj:j<i+1
   .simp only[hj,if_true]
    by_cases e:j=i
    .subst e;rw[List.getElem?_set_self (by omega),hx]
    .rw[List.getElem?_set_ne (Ne.symm e)];exact htj j (by omega)
   .simp only[hj,if_false]
 exact key l.length 0 (by omega) m hm (by simp)
theorem Ab7 {E:Type} {B:(List E×List E×Int×Unit)->Option ((List E×List E×Int×Unit)⊕((Bool×Unit)⊕Unit))} {l:List E}
  (hs: ∀(i:Nat) x,l[i]? =some x->i<l.length->B (l,l,(i:Int),())=some (.inl (l,l,(i:Int)+1,())))
  (he:B (l,l,(l.length:Int),())=some (.inr (.inr ()))):Bb B (l,l,(0:Int),())=some (.inr ()):=by
 have key: ∀(k i:Nat),i+k=l.length->Bb B (l,l,(i:Int),())=some (.inr ()):=by
  intro k
  induction k with
  |zero=>intro i hi;rw[show i=l.length by omega,Cm,he]
  |succ k ih=>
   intro i hi
   have hlt:i<l.length:=by omega
   rw[Cm,hs i _ (List.getElem?_eq_getElem hlt) hlt]
   simp only
   rw[show((i:Int)+1)=((i+1:Nat):Int) by omega]
   exact ih (i+1) (by omega)
 exact key l.length 0 (by omega)
end
end
section
noncomputable section
end
end
section
noncomputable section
theorem I2 {D O:Type} {B:D->Option (D⊕O)} (n:Nat) (f:Nat->D) (o:O) (hs: ∀i,i<n->B (f i)=some (.inl (f (i+1)))) (he:B (f n)=some (.inr o)):Bb B (f 0)=some o:=
 Aao f n (some o) hs (by rw[Cm,he])
theorem Gq {a b:Bool} (h:a=true↔b=true):a=b:=by cases a<;>cases b<;>simp_all
end
end
section
noncomputable section
theorem Aap:Bm Aa.emp [Aa.emp,Aa.emp]:=by
 refine⟨?_,?_⟩
 .simp only[List.pairwise_cons,List.mem_singleton,List.not_mem_nil]
  exact⟨fun g hg b=>.inl rfl,fun _ h=>h.elim,List.Pairwise.nil⟩
 .intro g hg
  simp at hg;subst hg
  intro b o h;cases h
end
end
section
theorem OVs.wf: ∀ {cs:List Sh} {f:Aa} {d:dens cs} {vs:List Value},OVs f (sgs cs d) vs->Ds cs d
 |[],_,_,_,_=>by simp only[Ds]
 |s::r,f,d,[],h=>by simp[sgs,OVs]at h
 |s::r,f,d,v::vs,h=>by
  obtain⟨g,k,_,h1,h2⟩:=h
  obtain⟨U,_,h3,_⟩:=h1.use
  simp only[Ds]
  exact⟨RdD.wfD s d.1 v h3,OVs.wf h2⟩
theorem OVv.wf {f:Aa} {p:Bool×List Sh} {d:dens p.2} {v:Value} (h:OVv f (rv p d) v):Ds p.2 d:=by
 unfold OVv rv at h
 cases hp:p.1 with
 |true=>simp only[hp]at h;obtain⟨vs,_,h⟩:=h;exact h.wf
 |false=>simp only[hp]at h;exact OVs.wf h
theorem OVt.wf: ∀ {ps:List (Bool×List Sh)} {f:Aa} {d:En ps} {vs:List Value},OVt f (mkA ps d) vs->WfA ps d
 |[],_,_,_,_=>trivial
 |p::r,f,d,[],h=>by simp[mkA,OVt]at h
 |p::r,f,d,v::vs,h=>by
  obtain⟨g,k,_,h1,h2⟩:=h
  exact⟨OVv.wf h1,OVt.wf h2⟩
end
section

theorem Ql {w:World} {k:Nat} {os:Array Obj}:As w (Sort.grow (w.drewN k) os):=⟨⟨os,w.drawn+k⟩,rfl⟩
theorem Nv {w:World} {s:ByteArray} {e:Ending} {w':World} (h:e= .returned (.string s)/\As w w'):Fv w (D9 [(false,[⟨.str,s⟩])]) e w':=by
 obtain⟨rfl,g⟩:=h
 refine Fv.mk Aa.emp g (fun b o h=>by cases h) (fun b o h=>by cases h) ?_
 simp only[D9,OVv,OVs]
 exact⟨Aa.emp,Aa.emp,Aap,by simp only[Af],trivial⟩
def Dm (n:Int):ByteArray:=⟨(Lib.itoa n).toArray⟩
def Ep (l:List (ByteArray×Unit)) (s:ByteArray):List UInt8:=Lib.join (l.map fun x=>x.1.data.toList) s.data.toList
theorem Ab0 {P:Program} {name:String} {g:Nat} {k:IntKind} {zs:List Int} (hg:P.globalNamed name=some g) (hm:(g,(zs.map fun z=>Value.int k z).toArray)∈TL) {w:World} {f:Aa} (h:TOk w f):Lib.TabIs P w name k zs:=by
 obtain⟨⟨e,d,h1⟩,_⟩:=h _ hm
 unfold Lib.TabIs World.var?
 rw[hg]
 simp only[Option.bind_some]
 rw[h1]
theorem Xk {P:Program} {name:String} {g:Nat} {k:IntKind} {zs:List Int} (hg:P.globalNamed name=some g) (ht:TL=[(g,(zs.map fun z=>Value.int k z).toArray)]) {w:World} (h:Lib.TabIs P w name k zs):TOk w Aa.emp:=by
 intro x hx
 rw[ht,List.mem_singleton]at hx
 subst hx
 unfold Lib.TabIs World.var? at h
 rw[hg]at h
 simp only[Option.bind_some]at h
 refine⟨?_,rfl⟩
 split at h
 .rename_i cs e d hb
  exact⟨e,d,by rw[hb];cases h;rfl⟩
 .cases h
theorem Zo {P:Program} {f:FuncId} {g:Nat} {name:String} (hg:P.globalNamed name=some g) (hm:(g,(Lib.pow10Tab.map fun z=>Value.int .u64 z).toArray)∈TL)
  (hc: ∀(n:Int) (w:World),-9223372036854775808<=n->n<=9223372036854775807->Lib.TabIs P w name .u64 Lib.pow10Tab->
   Calls P f #[.int .i64 n] w fun e w'=>e= .returned (.string ⟨(Lib.itoa n).toArray⟩)/\As w w')
  {V:En [(false,[.int .i64])]->Option (ByteArray×Unit)} (hV: ∀d,V d=some (Dm d.1.1,())):Rv P f .plain (A6 [(false,[.int .i64])] V fun r=>([rv (false,[.str]) r],[])):=by
 intro rs res vals w G hv hG htb hr
 obtain⟨d,x,rfl,h1,h2⟩:=P3 hv
 rw[hV]at h1
 cases h1
 subst h2
 match vals,hr with
 |[v],hr=>
  have e:v= .int .i64 d.1.1:=hr.1.1.1
  have hwf:(Lit.int .i64 d.1.1).wf=true:=hr.1.1.2
  subst e
  have hb: -9223372036854775808<=d.1.1/\d.1.1<=9223372036854775807:=by simpa [Lit.wf,IntKind.min,IntKind.max,IntKind.signed,IntKind.bits] using hwf
  exact(hc d.1.1 w hb.1 hb.2 (Ab0 hg hm htb)).mono fun e w' h=>Nv h
theorem Zp {P:Program} {f:FuncId} {e0:Nat}
  (h0: ∀(a:Option Addr) (c:Nat) (sep:ByteArray) (w:World),Calls P f #[.slice a 0 c,.string sep] w fun e w'=>e= .returned (.string ⟨#[]⟩)/\As w w')
  (hc: ∀(bk o c:Nat) (xs:List ByteArray) (sep:ByteArray) (w:World),(∀(j:Nat) x,xs[j]? =some x->w.cell? ⟨bk,o+j,none⟩=some (.string x))->bk<w.heap.size->xs.length<=140737488355328->xs.length<=c->
   (Lib.join (xs.map (·.data.toList)) sep.data.toList).length<=140737488355328->
   Calls P f #[.slice (some ⟨bk,o,none⟩) xs.length c,.string sep] w fun e w'=>e= .returned (.string ⟨(Lib.join (xs.map (·.data.toList)) sep.data.toList).toArray⟩)/\As w w')
  {V:En [(false,[.sl e0 [.str]]),(false,[.str])]->Option (ByteArray×Unit)} (hV: ∀d,V d=chk (decide (List.length d.1.1+(Ep d.1.1 d.2.1.1).length<=4294967296)) (some (⟨(Ep d.1.1 d.2.1.1).toArray⟩,()))):
  Rv P f .plain (A6 [(false,[.sl e0 [.str]]),(false,[.str])] V fun r=>([rv (false,[.str]) r],[])):=by
 intro rs res vals w G hv hG htb hr
 obtain⟨d,x,rfl,h1,h2⟩:=P3 hv
 rw[hV]at h1
 obtain⟨hb,h1⟩:=Ae h1
 have hb:=of_decide_eq_true hb
 cases h1
 subst h2
 obtain⟨⟨l,_⟩,⟨sep,_⟩,_⟩:=d
 have hb:List.length (α:=ByteArray×Unit) l+(Ep l sep).length<=4294967296:=hb
 match vals,hr with
 |[v,u],hr=>
  have e:u= .string sep:=by
   have h:=hr.2.1.1
   simpa only[RdD] using h
  subst e
  have hrow:RdD G (.sl e0 [.str]) l v:=hr.1.1
  simp only[RdD]at hrow
  obtain⟨a,cap,rfl,hcap,_,hn,hcells⟩:=hrow
  show Calls P f #[.slice a (List.length (α:=ByteArray×Unit) l) cap,.string sep] w (Fv w (D9 [(false,[⟨.str,(⟨(Ep l sep).toArray⟩:ByteArray)⟩])]))
  match l,hb,hcap,hcells with
  |[],hb,hcap,hcells=>
   exact(h0 a cap sep w).mono fun e w' h=>Nv h
  |x::r,hb,hcap,hcells=>
   obtain⟨b,o,rfl,h1⟩:=hcells 0 x rfl
   have hcell: ∀(i:Nat) (y:ByteArray×Unit),(x::r)[i]? =some y->w.cell? ⟨b,o+i,none⟩=some (.string y.1):=fun i y hy=>by
    obtain⟨b',o',e,h2⟩:=hcells i y hy
    cases e
    simp only[Bg]at h2
    obtain⟨⟨v,h3,h4⟩,_⟩:=h2
    rw[h4]at h3
    have:=hG _ _ _ h3
    simpa using this
   have hbk:b<w.heap.size:=by
    have h2:=hcell 0 x rfl
    unfold World.cell? at h2
    simp only at h2
    cases eb:w.heap[b]? with
    |none=>rw[eb]at h2;cases h2
    |some _=>exact(Array.getElem?_eq_some_iff.1 eb).1
   have hm:((x::r).map (·.1)).length=(x::r).length:=by simp
   have hj:Lib.join (((x::r).map (·.1)).map (·.data.toList)) sep.data.toList=Ep (x::r) sep:=by
    unfold Ep
    rw[List.map_map];rfl
   have hcc:=hc b o cap ((x::r).map (·.1)) sep w (fun j y hy=>by
    rw[List.getElem?_map]at hy
    cases hz:(x::r)[j]? with
    |none=>rw[hz]at hy;cases hy
    |some z=>rw[hz]at hy;cases hy;exact hcell j z hz) hbk (by rw[hm];omega) (by rw[hm];exact hcap) (by rw[hj];omega)
   rw[hm,hj]at hcc
   exact hcc.mono fun e w' h=>Nv h
end
end Go.Proofs.YthccfdmiejmbaaaDoor

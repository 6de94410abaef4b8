/-
  An evaluator of functions by symbols, part 4, and that what it answers is what a call returns; nothing is assumed.
-/
import Derived.Test.YthccfdmiejmbaaaGreatEv2
namespace Go.Proofs.YthccfdmiejmbaaaGreat
open Go.RowKit
set_option linter.unusedVariables false
set_option linter.unusedSimpArgs false
set_option linter.unusedSectionVars false
section
noncomputable section
def Id {E:Type} (q:Nat->E->Bool):List E->Nat->Option Nat
 |[],_=>none
 |x::r,i=>match q i x with|true=>some i|false=>Id q r (i+1)
theorem Ae6 {E:Type} {q:Nat->E->Bool}: ∀ {l:List E} {i:Nat},Id q l i=none↔ ∀j x,l[j]? =some x->q (i+j) x=false
 |[],i=>by simp[Id]
 |x::r,i=>by
  simp only[Id]
  cases hq:q i x with
  |true=>
   simp only
   constructor
   .intro h;cases h
   .intro h
    have:=h 0 x rfl
    rw[Nat.add_zero,hq]at this;cases this
  |false=>
   simp only
   rw[Ae6]
   refine⟨fun h j y hj=>?_,fun h j y hj=>?_⟩
   .cases j with
    |zero=>simp at hj;subst hj;simpa using hq
    |succ j=>have:=h j y (by simpa using hj);rw[show i+(j+1)=i+1+j by omega];exact this
   .have:=h (j+1) y (by simpa using hj);rw[show i+1+j=i+(j+1) by omega];exact this
theorem Tx {E:Type} {q:Nat->E->Bool}: ∀ {l:List E} {i k:Nat},Id q l i=some k-> ∃j x,k=i+j/\l[j]? =some x/\q k x=true/\ ∀j' y,j'<j->l[j']? =some y->q (i+j') y=false
 |[],i,k,h=>by simp[Id]at h
 |x::r,i,k,h=>by
  simp only[Id]at h
  cases hq:q i x with
  |true=>
   rw[hq]at h
   cases h
   exact⟨0,x,rfl,rfl,hq,fun j' y hj=>by omega⟩
  |false=>
   rw[hq]at h
   obtain⟨j,y,rfl,h2,h3,h4⟩:=Tx h
   refine⟨j+1,y,by omega,by simpa using h2,h3,fun j' z hj hz=>?_⟩
   cases j' with
   |zero=>simp at hz;subst hz;simpa using hq
   |succ j'=>have:=h4 j' z (by omega) (by simpa using hz);rw[show i+(j'+1)=i+1+j' by omega];exact this
def Dz {E:Type} (q:Nat->E->Bool) (l:List E):Bool:=(Id q l 0).isNone
theorem Hq {E:Type} {q:Nat->E->Bool} {l:List E}:Dz q l=true↔ ∀j x,l[j]? =some x->q j x=false:=by
 unfold Dz
 rw[Option.isNone_iff_eq_none,Ae6]
 simp
theorem Pz {E D X Y:Type} {B:D->Option (D⊕(X⊕Y))} (l:List E) (f:Nat->D) (q:Nat->E->Bool) (out:Nat->X) (fin:Y)
  (hs: ∀i x,i<l.length->l[i]? =some x->B (f i)=br (q i x) (some (.inr (.inl (out i)))) (some (.inl (f (i+1))))) (he:B (f l.length)=some (.inr (.inr fin))):
  Ax B (f 0)=some ((Id q l 0).elim (.inr fin) fun i=>.inl (out i)):=by
 have key: ∀k i,i+k=l.length->Ax B (f i)=some ((Id q (l.drop i) i).elim (.inr fin) fun i=>.inl (out i)):=by
  intro k
  induction k with
  |zero=>
   intro i hi
   have e:i=l.length:=by omega
   subst e
   rw[Dk,he,List.drop_length];rfl
  |succ k ih=>
   intro i hi
   have hlt:i<l.length:=by omega
   have hx:=List.getElem?_eq_getElem hlt
   rw[Dk,hs i _ hlt hx,List.drop_eq_getElem_cons hlt]
   simp only[Id]
   cases q i l[i]with
   |true=>rfl
   |false=>exact ih (i+1) (by omega)
 have:=key l.length 0 (by omega)
 rwa [List.drop_zero]at this
theorem Fk {E D X Y:Type} {B:D->Option (D⊕(X⊕Y))} (l:List E) (f:Nat->D) (q:Nat->E->Bool) (bad:X) (fin:Y)
  (hs: ∀i x,i<l.length->l[i]? =some x->B (f i)=br (q i x) (some (.inr (.inl bad))) (some (.inl (f (i+1))))) (he:B (f l.length)=some (.inr (.inr fin))):
  Ax B (f 0)=some (bif Dz q l then .inr fin else .inl bad):=by
 rw[Pz l f q (fun _=>bad) fin hs he]
 unfold Dz
 cases Id q l 0<;>rfl
theorem Bbd {D X Y:Type} {B:D->Option (D⊕(X⊕Y))} (n:Nat) (f:Nat->D) (q:Nat->Bool) (bad:X) (fin:Y)
  (hs: ∀i,i<n->B (f i)=br (q i) (some (.inr (.inl bad))) (some (.inl (f (i+1))))) (he:B (f n)=some (.inr (.inr fin))):
  Ax B (f 0)=some (bif Dz (fun i (_:Unit)=>q i) (List.replicate n ())then .inr fin else .inl bad):=
 Fk (List.replicate n ()) f (fun i _=>q i) bad fin (fun i x hi _=>hs i (by simpa using hi)) (by rw[List.length_replicate];exact he)
theorem Apn {n:Nat} {q:Nat->Bool}:Dz (fun i (_:Unit)=>q i) (List.replicate n ())=true↔ ∀i,i<n->q i=false:=by
 rw[Hq]
 refine⟨fun h i hi=>h i () (by simp[hi]),fun h i x hx=>h i ?_⟩
 rw[List.getElem?_replicate]at hx
 split at hx
 .assumption
 .cases hx
theorem C6 {D O:Type} {B:D->Option (D⊕O)} (n:Nat) (f:Nat->D) (o:O) (hs: ∀i,i<n->B (f i)=some (.inl (f (i+1)))) (he:B (f n)=some (.inr o)):Ax B (f 0)=some o:=
 Bxa f n (some o) hs (by rw[Dk,he])
theorem Kn {a b:Bool} (h:a=true↔b=true):a=b:=by cases a<;>cases b<;>simp_all
end
end
section
noncomputable section
def V5:List Int:=[0x428a2f98,0x71374491,0xb5c0fbcf,0xe9b5dba5,0x3956c25b,0x59f111f1,0x923f82a4,0xab1c5ed5,
 0xd807aa98,0x12835b01,0x243185be,0x550c7dc3,0x72be5d74,0x80deb1fe,0x9bdc06a7,0xc19bf174,
 0xe49b69c1,0xefbe4786,0x0fc19dc6,0x240ca1cc,0x2de92c6f,0x4a7484aa,0x5cb0a9dc,0x76f988da,
 0x983e5152,0xa831c66d,0xb00327c8,0xbf597fc7,0xc6e00bf3,0xd5a79147,0x06ca6351,0x14292967,
 0x27b70a85,0x2e1b2138,0x4d2c6dfc,0x53380d13,0x650a7354,0x766a0abb,0x81c2c92e,0x92722c85,
 0xa2bfe8a1,0xa81a664b,0xc24b8b70,0xc76c51a3,0xd192e819,0xd6990624,0xf40e3585,0x106aa070,
 0x19a4c116,0x1e376c08,0x2748774c,0x34b0bcb5,0x391c0cb3,0x4ed8aa4a,0x5b9cca4f,0x682e6ff3,
 0x748f82ee,0x78a5636f,0x84c87814,0x8cc70208,0x90befffa,0xa4506ceb,0xbef9a3f7,0xc67178f2]
theorem Bxc:Fb Ac.emp [Ac.emp,Ac.emp]:=by
 refine⟨?_,?_⟩
 .simp only[List.pairwise_cons,List.mem_singleton,List.not_mem_nil]
  exact⟨fun g hg b=>.inl rfl,fun _ h=>h.elim,List.Pairwise.nil⟩
 .intro g hg
  simp at hg;subst hg
  intro b o h;cases h
theorem Buk {w:World} {k:IntKind} {x:Int} {e:Ending} {w':World} (hw:(Lit.int k x).wf=true) (h:Ret w (.int k x) e w'):Ab1 w (Su [(false,[⟨.int k,x⟩])]) e w':=by
 obtain⟨rfl,g⟩:=h
 refine Ab1.mk Ac.emp g (fun b o h=>by cases h) (fun b o h=>by cases h) ?_
 simp only[Su,OVv,OVs]
 exact⟨Ac.emp,Ac.emp,Bxc,by simp only[Bf];exact⟨trivial,hw⟩,trivial⟩
def Aew (n:Int):Int:=if 0<=n/\n<=63 then V5[n.toNat]?.getD 0 else 0
theorem Bul (n:Int):(Lit.int .i64 (Aew n)).wf=true:=by
 unfold Aew
 split
 .cases h:V5[n.toNat]? with
  |none=>rfl
  |some x=>
   have hall: ∀x∈V5,(Lit.int .i64 x).wf=true:=by decide+kernel
   exact hall x (List.mem_of_getElem? h)
 .rfl
def Bag:Array Value:=(V5.map (Value.int .i64)).toArray
def Bah:Array Value:=(List.replicate 64 (Value.int .i64 0)).toArray
def A0n (T:Nat) (w:World) (C:Array Value):World:=(w.alloc (.cells Bah T)).setRow w.heap.size C
theorem Bih {P:Program} {ops:Array Oper} {rest:List Oper} {o:Oper} {a:Act} {w:World} {Q:Exit->Act->World->Prop} (hg:o.guard=none) (t:TypeId) (parts:Array (Nat×Operand)) (ho:o.op= .build t parts) (C:Array Value)
  (hf:P.built t (parts.map fun(i,x)=>(i,a.eval x)).toList=some C) (h:wpList P ops Q rest (a.put o.dst (.agg C)) w):wpList P ops Q (o::rest) a w:=by
 refine wpList_build hg t parts ho (by rw[hf];rfl) ?_
 rw[hf];exact h
theorem Bii {P:Program} {ops:Array Oper} {rest:List Oper} {o:Oper} {a:Act} {w:World} {Q:Exit->Act->World->Prop} (hg:o.guard=none) (t:TypeId) (ho:o.op= .alloc t) (i:TypeInfo) (z:Value) (Z:Array Value) (h1:P.info? t=some i) (h2:i.zero=some z) (h3:z.cells=Z)
  (h:wpList P ops Q rest (a.put o.dst (.pointer (some ⟨w.heap.size,0,none⟩))) (w.alloc (.cells Z t))):wpList P ops Q (o::rest) a w:=by
 refine wpList_plain hg fun _ hK=>C9 ?_ (hK _ _ h)
 unfold execOp;rw[ho]
 simp only[Instr.alloc,Sem.run_bind,Bmi h1 h2,Result.andThen_ok,Sem.run_pure,Apu,h3]
theorem Bij {P:Program} {ops:Array Oper} {rest:List Oper} {o:Oper} {a:Act} {w:World} {Q:Exit->Act->World->Prop} (hgd:o.guard=none) (T:Nat) (x y:Operand) (ho:o.op= .store T x y) (C:Array Value)
  (hx:a.eval x= .pointer (some ⟨w.heap.size,0,none⟩)) (hy:a.eval y= .agg C) (hi:(P.info? T).map (·.size)=some C.size) (hold:Bah.size=C.size) (h1:C.all (·.oneCell')=true)
  (h:wpList P ops Q rest (a.put o.dst undef) (A0n T w C)):wpList P ops Q (o::rest) a (w.alloc (.cells Bah T)):=
 wpList_store_row hgd T x y ho w.heap.size C hx hy T Bah (heap_alloc_new w _) hi hold h1 h
theorem Bui (T:Nat) (w:World) (C:Array Value):A0n T w C=w.alloc (.cells C T):=by
 unfold A0n World.setRow World.alloc
 congr 1
 apply Array.ext_getElem?
 intro i
 simp only[Array.getElem?_modify,Array.getElem?_push]
 by_cases hi:w.heap.size=i
 .subst hi;simp
 .simp[hi,Ne.symm hi]
theorem Bod (T:Nat) (w:World) (C:Array Value) (j:Nat):(A0n T w C).cell? ⟨w.heap.size,j,none⟩=C[j]? :=cell_setRow_same _ _ _ _ _ _ _ (heap_alloc_new w _)
end
end
section
theorem OVs.wf: ∀ {cs:List Sh} {f:Ac} {d:dens cs} {vs:List Value},OVs f (sgs cs d) vs->Hh cs d
 |[],_,_,_,_=>by simp only[Hh]
 |s::r,f,d,[],h=>by simp[sgs,OVs]at h
 |s::r,f,d,v::vs,h=>by
  obtain⟨g,k,_,h1,h2⟩:=h
  obtain⟨U,_,h3,_⟩:=h1.use
  simp only[Hh]
  exact⟨RdD.wfD s d.1 v h3,OVs.wf h2⟩
theorem OVv.wf {f:Ac} {p:Bool×List Sh} {d:dens p.2} {v:Value} (h:OVv f (rv p d) v):Hh p.2 d:=by
 unfold OVv rv at h
 cases hp:p.1 with
 |true=>simp only[hp]at h;obtain⟨vs,_,h⟩:=h;exact h.wf
 |false=>simp only[hp]at h;exact OVs.wf h
theorem OVt.wf: ∀ {ps:List (Bool×List Sh)} {f:Ac} {d:Vr ps} {vs:List Value},OVt f (mkA ps d) vs->WfA ps d
 |[],_,_,_,_=>trivial
 |p::r,f,d,[],h=>by simp[mkA,OVt]at h
 |p::r,f,d,v::vs,h=>by
  obtain⟨g,k,_,h1,h2⟩:=h
  exact⟨OVv.wf h1,OVt.wf h2⟩
end
end Go.Proofs.YthccfdmiejmbaaaGreat

/-
  An evaluator of functions by symbols, part 1, and that what it answers is what a call returns; nothing is assumed.
-/
import Derived.WalkKit
import Derived.WalkSpells
import Derived.WalkLawsBesides
import Derived.Lib.Hide
import Derived.ProofKit
import Derived.Deep.Slices
import Derived.Deep.MidRow
import Derived.Deep.RegionHeld3
import Derived.Deep.QuietTactic
import Derived.BigQuiet
import Derived.Laws.StructEq
import Derived.OpenShut
import Derived.DataShut
import Derived.Great.BuildSlice
import Derived.Laws.BytesArg
import Derived.Laws.IdiomStrings
import Derived.Orders
namespace Go.Proofs.YthccfdmiejmbaaaGreat
open Go.RowKit
set_option linter.unusedVariables false
set_option linter.unusedSimpArgs false
set_option linter.unusedSectionVars false
section

def Ac:Type:=Nat->Option Obj
namespace Ac
def emp:Ac:=fun _=>none
def one (b:Nat) (o:Obj):Ac:=fun k=>if k=b then some o else none
def join (f g:Ac):Ac:=fun k=>(f k).or (g k)
def sub (f g:Ac):Prop:=∀k o,f k=some o->g k=some o
def apart (f g:Ac):Prop:=∀k,f k=none\/g k=none
def from_ (f:Ac) (b:Nat):Prop:=∀k o,f k=some o->b<=k
def below (f:Ac) (b:Nat):Prop:=∀k o,f k=some o->k<b

theorem sub_refl (f:Ac):f.sub f:=fun _ _ h=>h
theorem sub_trans {f g h:Ac} (a:f.sub g) (b:g.sub h):f.sub h:=fun k o e=>b k o (a k o e)
theorem emp_sub (f:Ac):emp.sub f:=fun k o e=>by cases e
theorem sub_join_left (f g:Ac):f.sub (f.join g):=fun k o e=>by simp[join,e]
theorem sub_join_right {f g:Ac} (h:f.apart g):g.sub (f.join g):=fun k o e=>by
 rcases h k with h|h
 .simp[join,h,e]
 .rw[h]at e;cases e
theorem apart_symm {f g:Ac} (h:f.apart g):g.apart f:=fun k=>(h k).symm
theorem apart_emp (f:Ac):f.apart emp:=fun _=>.inr rfl
theorem emp_apart (f:Ac):emp.apart f:=fun _=>.inl rfl
theorem apart_sub {f g f' g':Ac} (h:f.apart g) (hf:f'.sub f) (hg:g'.sub g):f'.apart g':=fun k=>by
 rcases h k with h|h
 .left
  cases e:f' k with
  |none=>rfl
  |some o=>rw[hf k o e]at h;cases h
 .right
  cases e:g' k with
  |none=>rfl
  |some o=>rw[hg k o e]at h;cases h
theorem apart_of {f g:Ac} {b:Nat} (hf:f.below b) (hg:g.from_ b):f.apart g:=fun k=>by
 cases e:f k with
 |none=>exact .inl rfl
 |some o=>
  right
  cases e':g k with
  |none=>rfl
  |some o'=>have:=hf k o e;have:=hg k o' e';omega
theorem join_apart {f g h:Ac} (a:f.apart h) (b:g.apart h):(f.join g).apart h:=fun k=>by
 rcases a k with x|x
 .rcases b k with y|y
  .left;simp[join,x,y]
  .exact .inr y
 .exact .inr x
theorem apart_join {f g h:Ac} (a:h.apart f) (b:h.apart g):h.apart (f.join g):=apart_symm (join_apart (apart_symm a) (apart_symm b))
theorem from_mono {f:Ac} {b c:Nat} (h:f.from_ b) (hc:c<=b):f.from_ c:=fun k o e=>Nat.le_trans hc (h k o e)
theorem from_emp (b:Nat):emp.from_ b:=fun k o e=>by cases e
theorem join_sub {f g h:Ac} (a:f.sub h) (b:g.sub h):(f.join g).sub h:=fun k o e=>by
 cases x:f k with
 |none=>simp[join,x]at e;exact b k o e
 |some o'=>simp[join,x]at e;exact a k o (by rw[x,e])
end Ac

def Bu (f:Ac) (w:World):Prop:=∀k o,f k=some o->w.heap[k]? =some o
theorem Bu.lt {f:Ac} {w:World} (h:Bu f w):f.below w.heap.size:=fun k o e=>(Array.getElem?_eq_some_iff.1 (h k o e)).1
theorem Bu.sub {f g:Ac} {w:World} (h:Bu g w) (hs:f.sub g):Bu f w:=fun k o e=>h k o (hs k o e)
theorem Bu.emp (w:World):Bu Ac.emp w:=fun k o e=>by cases e
theorem Bu.join {f g:Ac} {w:World} (h:Bu f w) (h':Bu g w):Bu (f.join g) w:=fun k o e=>by
 cases x:f k with
 |none=>simp[Ac.join,x]at e;exact h' k o e
 |some o'=>simp[Ac.join,x]at e;exact h k o (by rw[x,e])

structure More where
 blocks:Array Obj
 drawn:Nat
def _root_.Go.World.ext (w:World) (x:More):World:={w with heap:=w.heap++x.blocks,drawn:=x.drawn}

@[simp] theorem B21 (w:World) (x:More):(w.ext x).heap.size=w.heap.size+x.blocks.size:=by simp[World.ext]
theorem Adc (w:World) (x:More) (k:Nat) (h:k<w.heap.size):(w.ext x).heap[k]? =w.heap[k]? :=by
 simp only[World.ext]
 exact Array.getElem?_append_left h
theorem A2v (w:World) (x:More) (k:Nat) (h:w.heap.size<=k):(w.ext x).heap[k]? =x.blocks[k-w.heap.size]? :=by
 simp only[World.ext]
 exact Array.getElem?_append_right h
theorem cell?_ext (w:World) (x:More) (a:Addr) (h:a.block<w.heap.size):(w.ext x).cell? a=w.cell? a:=
 World.cell?_of_block (Adc w x _ h)
theorem frozen?_ext (w:World) (x:More) (a:Addr) (h:a.block<w.heap.size):(w.ext x).frozen? a=w.frozen? a:=
 World.frozen?_of_block (Adc w x _ h)
theorem Bpe (w:World) (x:More) (a:Addr) (v:Value) (h:a.block<w.heap.size):(w.ext x).setCell a v=(w.setCell a v).ext x:=by
 simp only[World.ext,World.setCell]
 congr 1
 apply Array.ext_getElem?
 intro i
 simp only[Array.getElem?_modify,Array.getElem?_append,Array.size_modify]
 by_cases hi:a.block=i
 .subst hi;simp[h]
 .simp[hi]
theorem Bqe (w:World) (x y:More):(w.ext x).ext y=w.ext ⟨x.blocks++y.blocks,y.drawn⟩:=by simp[World.ext,Array.append_assoc]
theorem Bha (w:World) (o:Obj):w.alloc o=w.ext ⟨#[o],w.drawn⟩:=by unfold World.alloc World.ext;rw[Array.push_eq_append]
theorem Byk (w:World):w.drew=w.ext ⟨#[],w.drawn+1⟩:=by unfold World.ext World.drew;simp only[Array.append_empty]
theorem Byl (w:World):w=w.ext ⟨#[],w.drawn⟩:=by simp[World.ext]
def Dc (w w':World):Prop:=∃x,w'=w.ext x
theorem Dc.refl (w:World):Dc w w:=⟨_,Byl w⟩
theorem Dc.ext {w w':World} (h:Dc w w') (x:More):Dc w (w'.ext x):=by
 obtain⟨y,rfl⟩:=h;exact⟨_,Bqe _ _ _⟩
theorem Dc.trans {a b c:World} (h:Dc a b) (k:Dc b c):Dc a c:=by obtain⟨x,rfl⟩:=k;exact h.ext x
theorem Dc.alloc {w w':World} (h:Dc w w') (o:Obj):Dc w (w'.alloc o):=by rw[Bha];exact h.ext _
theorem Dc.drew {w w':World} (h:Dc w w'):Dc w w'.drew:=by rw[Byk];exact h.ext _
theorem Dc.size {w w':World} (h:Dc w w'):w.heap.size<=w'.heap.size:=by obtain⟨x,rfl⟩:=h;simp
theorem Dc.block {w w':World} (h:Dc w w') (k:Nat) (hk:k<w.heap.size):w'.heap[k]? =w.heap[k]? :=by
 obtain⟨x,rfl⟩:=h;exact Adc _ _ _ hk
theorem Dc.of_below {w w':World} (h:Below w.heap.size w w'):Dc w w':=by
 refine⟨⟨w'.heap.extract w.heap.size w'.heap.size,w'.drawn⟩,?_⟩
 have hb:=h.block
 have hs:=h.size
 have hos:=h.os
 have ht:=h.tape
 have ho:=h.output
 obtain⟨hp,tp,dr,os,out⟩:=w'
 simp only at*
 subst hos ht ho
 simp only[World.ext]
 congr 1
 apply Array.ext_getElem?
 intro i
 rw[Array.getElem?_append]
 split
 .rename_i hi;exact hb i hi
 .rename_i hi
  rw[Array.getElem?_extract]
  split
  .congr 1;omega
  .exact Array.getElem?_eq_none (by omega)
theorem Dc.below {w w':World} (h:Dc w w'):Below w.heap.size w w':=by
 obtain⟨x,rfl⟩:=h
 exact⟨rfl,rfl,rfl,by simp,fun k hk=>Adc _ _ _ hk⟩

theorem Bu.ext {f:Ac} {w:World} (h:Bu f w) (x:More):Bu f (w.ext x):=fun k o e=>by
 rw[Adc w x k (h.lt k o e)];exact h k o e
theorem Bu.grew {f:Ac} {w w':World} (h:Bu f w) (g:Dc w w'):Bu f w':=by obtain⟨x,rfl⟩:=g;exact h.ext x
theorem Bu.alloc {f:Ac} {w:World} (h:Bu f w) (o:Obj):Bu f (w.alloc o):=by rw[Bha];exact h.ext _
theorem Bu.drew {f:Ac} {w:World} (h:Bu f w):Bu f w.drew:=h
theorem Bu.setCell {f:Ac} {w:World} (h:Bu f w) {a:Addr} (ha:f a.block=none) (v:Value):Bu f (w.setCell a v):=fun k o e=>by
 rw[heap_setCell_other _ _ _ _ (fun hk=>by rw[<-hk,e]at ha;cases ha)];exact h k o e
def In (n:Nat) (x:More) (f:Ac):Prop:=∀k o,f k=some o->n<=k/\x.blocks[k-n]? =some o
theorem In.lies {n:Nat} {x:More} {f:Ac} (h:In n x f) {w:World} (hn:w.heap.size=n):Bu f (w.ext x):=fun k o e=>by
 obtain⟨h1,h2⟩:=h k o e
 rw[A2v w x k (by omega),hn];exact h2
theorem In.from_ {n:Nat} {x:More} {f:Ac} (h:In n x f):f.from_ n:=fun k o e=>(h k o e).1
theorem In.of_lies {w:World} {x:More} {f:Ac} (h:Bu f (w.ext x)) (hf:f.from_ w.heap.size):In w.heap.size x f:=fun k o e=>
 ⟨hf k o e,by rw[<-A2v w x k (hf k o e)];exact h k o e⟩
theorem In.emp (n:Nat) (x:More):In n x Ac.emp:=fun k o e=>by cases e


def Ac.cell (f:Ac) (b o:Nat):Option Value:=
 match f b with
 |some (.cells c _ _)=>c[o]?
 |_=>none
theorem Bu.cell {f:Ac} {w:World} (h:Bu f w) {b o:Nat} {v:Value} (e:f.cell b o=some v):w.cell? ⟨b,o,none⟩=some v:=by
 unfold Ac.cell at e
 cases x:f b with
 |none=>rw[x]at e;cases e
 |some ob=>
  rw[x]at e
  cases ob<;>simp at e
  rename_i c t fr
  rw[cell_of_row w b o c t fr (h b _ x)]
  simpa using e
theorem Ac.cell_sub {f g:Ac} (h:f.sub g) {b o:Nat} {v:Value} (e:f.cell b o=some v):g.cell b o=some v:=by
 unfold Ac.cell at*
 cases x:f b with
 |none=>rw[x]at e;cases e
 |some ob=>rw[h b _ x];rw[x]at e;exact e

def Ab0 (f:Ac) (s:Value) (n:Nat) (cs:List Value):Prop:=
 ∃a cap,s= .slice a n cap/\n<=cap/\cap<=maxLen/\
  match a with
  |none=>cap=0/\cs=[]
  |some ad=>∀i c,cs[i]? =some c->ad.spot=none/\f.cell ad.block (ad.off+i)=some c

def Dw (e sz:Nat) (f:Ac) (s:Value) (n:Nat) (cs:List Value):Prop:=
 cs.length=n*sz/\
 (((∃a,s= .slice a 0 0)/\n=0)\/
  ∃g cap cur,s= .slice (some ⟨g,0,none⟩) n cap/\f g=some (.cells cur e (0,0))/\n<=cap/\cap<=maxLen/\cur.size=cap*sz/\cur.toList.take (n*sz)=cs)

theorem Ab0.sub {f g:Ac} {s:Value} {n:Nat} {cs:List Value} (h:Ab0 f s n cs) (hs:f.sub g):Ab0 g s n cs:=by
 obtain⟨a,cap,rfl,h1,h2,h3⟩:=h
 refine⟨a,cap,rfl,h1,h2,?_⟩
 cases a with
 |none=>exact h3
 |some ad=>exact fun i c hc=>⟨(h3 i c hc).1,Ac.cell_sub hs (h3 i c hc).2⟩
theorem Dw.sub {e sz:Nat} {f g:Ac} {s:Value} {n:Nat} {cs:List Value} (h:Dw e sz f s n cs) (hs:f.sub g):Dw e sz g s n cs:=by
 obtain⟨hl,h|⟨b,cap,cur,h1,h2,h3⟩⟩:=h
 .exact⟨hl,.inl h⟩
 .exact⟨hl,.inr ⟨b,cap,cur,h1,hs b _ h2,h3⟩⟩
theorem Dw.nil (e sz:Nat) (f:Ac):Dw e sz f (.slice none 0 0) 0 []:=⟨by simp,.inl ⟨⟨_,rfl⟩,rfl⟩⟩
theorem Dw.zero (e sz:Nat) (f:Ac) (a:Option Addr):Dw e sz f (.slice a 0 0) 0 []:=⟨by simp,.inl ⟨⟨_,rfl⟩,rfl⟩⟩
theorem Dw.rd {e sz:Nat} {f:Ac} {s:Value} {n:Nat} {cs:List Value} (h:Dw e sz f s n cs):Ab0 f s n cs:=by
 obtain⟨hl,⟨⟨a,rfl⟩,rfl⟩|⟨b,cap,cur,rfl,h2,h3,h4,h5,h6⟩⟩:=h
 .have hnil:cs=[]:=List.eq_nil_of_length_eq_zero (by simpa using hl)
  subst hnil
  refine⟨a,0,rfl,Nat.le_refl _,Nat.zero_le _,?_⟩
  cases a with
  |none=>exact⟨rfl,rfl⟩
  |some ad=>exact fun i c hc=>by simp at hc
 .refine⟨_,cap,rfl,h3,h4,fun i c hc=>⟨rfl,?_⟩⟩
  unfold Ac.cell
  rw[h2]
  simp only[Nat.zero_add]
  rw[<-h6,List.getElem?_take]at hc
  split at hc
  .simpa using hc
  .cases hc
def Btc (l:List UInt8):List Value:=l.map fun b=>.int .u8 b.toNat
def Btd (l:List Int):List Value:=l.map fun n=>.int .i64 n
def RdB (f:Ac) (s:Value) (l:List UInt8):Prop:=Ab0 f s l.length (Btc l)
def Beg (f:Ac) (s:Value) (l:List UInt8):Prop:=Dw 5 1 f s l.length (Btc l)
theorem Beg.rd {f:Ac} {s:Value} {l:List UInt8} (h:Beg f s l):RdB f s l:=Dw.rd h
theorem RdB.out {f:Ac} {s:Value} {l:List UInt8} (h:RdB f s l): ∃a cap,s= .slice a l.length cap/\l.length<=cap/\cap<=maxLen/\
  (∀i,i<l.length-> ∃b o,a=some ⟨b,o,none⟩/\f.cell b (o+i)=some (.int .u8 (l.getD i 0).toNat)):=by
 obtain⟨a,cap,rfl,h1,h2,h3⟩:=h
 refine⟨a,cap,rfl,h1,h2,fun i hi=>?_⟩
 cases a with
 |none=>have h3:=h3.2;simp[Btc]at h3;subst h3;simp at hi
 |some ad=>
  obtain⟨b,o,sp⟩:=ad
  obtain⟨hs,h4⟩:=h3 i (.int .u8 (l.getD i 0).toNat) (by simp[Btc,List.getD,List.getElem?_eq_getElem hi])
  simp only at hs
  subst hs
  exact⟨b,o,rfl,h4⟩
def Ret (w:World) (v:Value) (e:Ending) (w':World):Prop:=e= .returned v/\Dc w w'
theorem Ret.mk {w:World} {v v':Value} {w':World} (h:v'=v) (g:Dc w w'):Ret w v (.returned v') w':=⟨by rw[h],g⟩
theorem Ret.out {w:World} {v:Value} {e:Ending} {w':World} (h:Ret w v e w'):e= .returned v/\ ∃x,w'=w.ext x:=h
def Ab1 (w:World) (Ψ:Value->Ac->Prop) (e:Ending) (w':World):Prop:=
 ∃v f,e= .returned v/\Dc w w'/\Bu f w'/\f.from_ w.heap.size/\Ψ v f
theorem Ab1.mk {w:World} {Ψ:Value->Ac->Prop} {v:Value} {w':World} (f:Ac) (g:Dc w w') (hl:Bu f w') (hf:f.from_ w.heap.size) (h:Ψ v f):Ab1 w Ψ (.returned v) w':=⟨v,f,rfl,g,hl,hf,h⟩
theorem Ab1.out {w:World} {Ψ:Value->Ac->Prop} {e:Ending} {w':World} (h:Ab1 w Ψ e w'):
  ∃v f x,e= .returned v/\w'=w.ext x/\In w.heap.size x f/\Ψ v f:=by
 obtain⟨v,f,h1,⟨x,rfl⟩,h3,h4,h5⟩:=h
 exact⟨v,f,x,h1,rfl,In.of_lies h3 h4,h5⟩
attribute [simp] cell?_ext frozen?_ext Bpe

def szb (n:Nat) (left:Int):Int:=if left<n then-1 else left-n
structure Moved (f:Ac) (w w':World):Prop where
 os:w'.os=w.os
 tape:w'.tape=w.tape
 output:w'.output=w.output
 size:w.heap.size<=w'.heap.size
 block: ∀k,k<w.heap.size->f k=none->w'.heap[k]? =w.heap[k]?
theorem Moved.refl (f:Ac) (w:World):Moved f w w:=⟨rfl,rfl,rfl,Nat.le_refl _,fun _ _ _=>rfl⟩
theorem Moved.of_grew {f:Ac} {w w':World} (h:Dc w w'):Moved f w w':=by
 obtain⟨x,rfl⟩:=h
 exact⟨rfl,rfl,rfl,by simp,fun k hk _=>Adc _ _ _ hk⟩
theorem Moved.lies {f g:Ac} {w w':World} (h:Moved f w w') (hg:Bu g w) (ha:g.apart f):Bu g w':=fun k o e=>by
 rw[h.block k (hg.lt k o e) ((ha k).resolve_left (by rw[e];simp))];exact hg k o e
theorem Moved.grew {f:Ac} {b w w':World} (h:Moved f w w') (hb:Dc b w) (hf:f.from_ b.heap.size):Dc b w':=by
 refine Dc.of_below ⟨?_,?_,?_,Nat.le_trans hb.size h.size,fun k hk=>?_⟩
 .rw[h.os];exact hb.below.os
 .rw[h.tape];exact hb.below.tape
 .rw[h.output];exact hb.below.output
 .rw[h.block k (Nat.lt_of_lt_of_le hk hb.size) ?_]
  .exact hb.block k hk
  .cases e:f k with
   |none=>rfl
   |some o=>have:=hf k o e;omega
def Ac.newOr (f' f:Ac) (n:Nat):Prop:=∀k o,f' k=some o->f k≠none\/n<=k
theorem Ac.newOr.from_ {f' f:Ac} {n b:Nat} (h:f'.newOr f n) (hf:f.from_ b) (hb:b<=n):f'.from_ b:=fun k o e=>by
 rcases h k o e with h|h
 .cases x:f k with
  |none=>exact absurd x h
  |some o'=>exact hf k o' x
 .omega
theorem Ac.newOr.apart {f' f g:Ac} {n:Nat} (h:f'.newOr f n) (hg:g.apart f) (hn:g.below n):g.apart f':=fun k=>by
 cases e:g k with
 |none=>exact .inl rfl
 |some o=>
  right
  cases e':f' k with
  |none=>rfl
  |some o'=>
   rcases h k o' e' with h|h
   .rcases hg k with x|x
    .rw[e]at x;cases x
    .exact absurd x h
   .have:=hn k o e;omega
theorem Qw {w:World} {b:Nat} {o:Obj} (h:w.heap[b]? =some o):Bu (Ac.one b o) w:=fun k o' e=>by
 simp only[Ac.one]at e
 split at e
 .rename_i hk;subst hk;cases e;exact h
 .cases e
theorem Qx (b:Nat) (o:Obj):Ac.one b o b=some o:=by simp[Ac.one]
section
variable {P:Program} (w:World)
theorem Ab2 (e sz:Nat) (z:Value) (hzs:z.cells.size=sz) (xs news:List Value) (n m need old:Nat) (hx:xs.length=n*sz) (hn:news.length=m*sz) (hneed:need=n+m)
  (h63:n+m<=maxLen):
  Dw e sz (Ac.one w.heap.size (.cells (xs.toArray++news.toArray++Builtin.zeroCells z.cells (grownCap w need old e-need)) e))
   (.slice (some ⟨w.heap.size,0,none⟩) (n+m) (grownCap w need old e)) (n+m) (xs++news):=by
 subst hneed
 have hlen:(xs++news).length=(n+m)*sz:=by rw[List.length_append,hx,hn,Nat.add_mul]
 have hge:=grownCap_ge w (n+m) old e
 have hcm:=grownCap_le_maxLen w (n+m) old e h63
 refine⟨hlen,.inr ⟨w.heap.size,_,_,rfl,Qx _ _,hge,hcm,?_,?_⟩⟩
 .simp only[Array.size_append,List.size_toArray,size_zeroCells,hzs,hx,hn,<-Nat.add_mul]
  congr 1
  omega
 .simp only[Array.toList_append,List.append_assoc]
  rw[<-List.append_assoc,<-hlen]
  exact List.take_left
end

structure RowTy (P:Program) (t e:TypeId) (z:Value) (sz bytes:Nat):Prop where
 ht:P.underlying t=some (.slice e)
 hi:(P.info? e).map (fun i=>(i.zero,i.size,i.bytes))=some (some z,sz,bytes)
 hz:z.cells.size=sz
 h0:0<sz
theorem RowTy.info {P:Program} {t e:TypeId} {z:Value} {sz bytes:Nat} (R:RowTy P t e z sz bytes): ∃i,P.info? e=some i/\i.zero=some z/\i.size=sz/\i.bytes=bytes:=by
 have:=R.hi
 cases h:P.info? e with
 |none=>rw[h]at this;cases this
 |some i=>rw[h]at this;simp at this;exact⟨i,rfl,this.1,this.2.1,this.2.2⟩

section
variable {P:Program} {w:World} {ops:Array Oper} {rest:List Oper} {o:Oper} {a:Act} {Q:Exit->Act->World->Prop} {K:Act->World->Prop} {t e:TypeId} {z:Value} {sz bytes:Nat}
end

theorem Dw.form {e sz:Nat} {f:Ac} {s:Value} {n:Nat} {cs:List Value} (h:Dw e sz f s n cs): ∃a cap,s= .slice a n cap:=by
 obtain⟨_,_,h,_⟩:=h.rd;exact⟨_,_,h⟩
theorem Beg.form {f:Ac} {s:Value} {l:List UInt8} (h:Beg f s l): ∃a cap,s= .slice a l.length cap:=Dw.form h
theorem Ab0.form {f:Ac} {s:Value} {n:Nat} {cs:List Value} (h:Ab0 f s n cs): ∃a cap,s= .slice a n cap:=by
 obtain⟨_,_,h,_⟩:=h;exact⟨_,_,h⟩
theorem RdB.form {f:Ac} {s:Value} {l:List UInt8} (h:RdB f s l): ∃a cap,s= .slice a l.length cap:=Ab0.form h
theorem Ft {css:List (List Value)} {sz:Nat} (hsz: ∀c∈css,c.length=sz) {i j:Nat} {c:List Value} (hc:css[i]? =some c) (hj:j<sz):css.flatten[i*sz+j]? =c[j]? :=by
 induction css generalizing i with
 |nil=>simp at hc
 |cons d r ih=>
  have hd:d.length=sz:=hsz d (by simp)
  cases i with
  |zero=>
   simp at hc;subst hc
   simp only[List.flatten_cons,Nat.zero_mul,Nat.zero_add]
   rw[List.getElem?_append_left (by omega)]
  |succ i=>
   simp at hc
   simp only[List.flatten_cons]
   rw[List.getElem?_append_right (by rw[hd,Nat.succ_mul];omega),hd,show(i+1)*sz+j-sz=i*sz+j by rw[Nat.succ_mul];omega]
   exact ih (fun c hc=>hsz c (by simp[hc])) hc
theorem Fg {css:List (List Value)} {sz:Nat} (hsz: ∀c∈css,c.length=sz):css.flatten.length=css.length*sz:=by
 induction css with
 |nil=>simp
 |cons d r ih=>
  simp only[List.flatten_cons,List.length_append,List.length_cons,ih (fun c hc=>hsz c (by simp[hc])),hsz d (by simp)]
  rw[Nat.succ_mul];omega

def A3v {α:Type} (sz:Nat) (rd:Ac->List Value->α->Prop) (f:Ac) (css:List (List Value)) (l:List α):Prop:=
 css.length=l.length/\ ∀(i:Nat) (c:List Value) (a:α),css[i]? =some c->l[i]? =some a->c.length=sz/\rd f c a
def Ab3 {α:Type} (sz:Nat) (rd:Ac->List Value->α->Prop) (f:Ac) (s:Value) (l:List α):Prop:=
 ∃css,Ab0 f s l.length css.flatten/\A3v sz rd f css l
theorem A3v.len {α:Type} {sz:Nat} {rd:Ac->List Value->α->Prop} {f:Ac} {css:List (List Value)} {l:List α} (h:A3v sz rd f css l): ∀c∈css,c.length=sz:=by
 intro c hc
 obtain⟨i,hi⟩:=List.getElem?_of_mem hc
 have hlt:i<l.length:=by rw[<-h.1];exact(List.getElem?_eq_some_iff.1 hi).1
 exact(h.2 i c _ hi (List.getElem?_eq_getElem hlt)).1
theorem Ab3.form {α:Type} {sz:Nat} {rd:Ac->List Value->α->Prop} {f:Ac} {s:Value} {l:List α} (h:Ab3 sz rd f s l): ∃a cap,s= .slice a l.length cap/\cap<=maxLen/\l.length<=cap:=by
 obtain⟨_,⟨a,cap,rfl,h1,h2,_⟩,_⟩:=h;exact⟨a,cap,rfl,h2,h1⟩
def Fb (f:Ac) (l:List Ac):Prop:=l.Pairwise Ac.apart/\ ∀g∈l,g.sub f
theorem Fb.nil (f:Ac):Fb f []:=⟨.nil,fun g h=>by cases h⟩
theorem Fb.cons {g f:Ac} {l:List Ac} (ha:g.apart f) (h:Fb f l):Fb (g.join f) (g::l):=by
 refine⟨List.pairwise_cons.2 ⟨fun x hx=>Ac.apart_sub ha (Ac.sub_refl _) (h.2 x hx),h.1⟩,fun x hx=>?_⟩
 rcases List.mem_cons.1 hx with rfl|hx
 .exact Ac.sub_join_left _ _
 .exact Ac.sub_trans (h.2 x hx) (Ac.sub_join_right ha)
theorem Fb.one (g:Ac):Fb g [g]:=⟨List.pairwise_singleton _ _,fun x hx=>by simp at hx;subst hx;exact Ac.sub_refl _⟩
theorem Fb.sub {f g:Ac} {l:List Ac} (h:Fb f l) (hs:f.sub g):Fb g l:=⟨h.1,fun x hx=>Ac.sub_trans (h.2 x hx) hs⟩

def Cd {α:Type} (sz:Nat) (own:Ac->List Value->α->Prop) (hs:List Ac) (css:List (List Value)) (l:List α):Prop:=
 css.length=l.length/\hs.length=l.length/\ ∀(i:Nat) (h:Ac) (c:List Value) (a:α),hs[i]? =some h->css[i]? =some c->l[i]? =some a->c.length=sz/\own h c a
def Zs {α:Type} (e sz:Nat) (own:Ac->List Value->α->Prop) (f:Ac) (s:Value) (l:List α):Prop:=
 ∃css g hs,Dw e sz g s l.length css.flatten/\Fb f (g::hs)/\Cd sz own hs css l
theorem Zs.form {α:Type} {e sz:Nat} {own:Ac->List Value->α->Prop} {f:Ac} {s:Value} {l:List α} (h:Zs e sz own f s l): ∃a cap,s= .slice a l.length cap:=by
 obtain⟨_,_,_,h,_⟩:=h;exact h.form
theorem Cd.rd {α:Type} {sz:Nat} {own rd:Ac->List Value->α->Prop} (hor: ∀f cs a,own f cs a->rd f cs a) (hsub: ∀f g cs a,rd f cs a->f.sub g->rd g cs a)
  {hs:List Ac} {css:List (List Value)} {l:List α} {f:Ac} (h:Cd sz own hs css l) (hp: ∀g∈hs,g.sub f):A3v sz rd f css l:=by
 refine⟨h.1,fun i c a hc ha=>?_⟩
 have hi:i<hs.length:=by rw[h.2.1];exact(List.getElem?_eq_some_iff.1 ha).1
 obtain⟨h1,h2⟩:=h.2.2 i _ c a (List.getElem?_eq_getElem hi) hc ha
 exact⟨h1,hsub _ _ _ _ (hor _ _ _ h2) (hp _ (List.getElem_mem _))⟩
theorem Zs.rd {α:Type} {e sz:Nat} {own rd:Ac->List Value->α->Prop} (hor: ∀f cs a,own f cs a->rd f cs a) (hsub: ∀f g cs a,rd f cs a->f.sub g->rd g cs a)
  {f:Ac} {s:Value} {l:List α} (h:Zs e sz own f s l):Ab3 sz rd f s l:=by
 obtain⟨css,g,hs,h1,h2,h3⟩:=h
 exact⟨css,h1.rd.sub (h2.2 g (by simp)),h3.rd hor hsub (fun x hx=>h2.2 x (by simp[hx]))⟩
theorem Ab3.sub {α:Type} {sz:Nat} {rd:Ac->List Value->α->Prop} (hsub: ∀f g cs a,rd f cs a->f.sub g->rd g cs a) {f g:Ac} {s:Value} {l:List α} (h:Ab3 sz rd f s l) (hs:f.sub g):Ab3 sz rd g s l:=by
 obtain⟨css,h1,h2,h3⟩:=h
 exact⟨css,h1.sub hs,h2,fun i c a hc ha=>⟨(h3 i c a hc ha).1,hsub _ _ _ _ (h3 i c a hc ha).2 hs⟩⟩
theorem Cd.len {α:Type} {sz:Nat} {own:Ac->List Value->α->Prop} {hs:List Ac} {css:List (List Value)} {l:List α} (h:Cd sz own hs css l): ∀c∈css,c.length=sz:=by
 intro c hc
 obtain⟨i,hi⟩:=List.getElem?_of_mem hc
 have hlt:i<l.length:=by rw[<-h.1];exact(List.getElem?_eq_some_iff.1 hi).1
 exact(h.2.2 i _ c _ (List.getElem?_eq_getElem (by rw[h.2.1];exact hlt)) hi (List.getElem?_eq_getElem hlt)).1
theorem Cd.nil {α:Type} (sz:Nat) (own:Ac->List Value->α->Prop):Cd sz own [] [] []:=⟨rfl,rfl,fun i h c a e=>by simp at e⟩
def splice (C:Array Value) (o:Nat) (cs:List Value):Array Value:=(C.toList.take o++cs++C.toList.drop (o+cs.length)).toArray
theorem Ab4 (b:Nat) (e:TypeId): ∀(cs:List Value) (o:Nat) (C:Array Value) (w:World),w.heap[b]? =some (.cells C e (0,0))->o+cs.length<=C.size->
  w.setCells b o cs=w.setRow b (splice C o cs):=by
 intro cs
 induction cs with
 |nil=>
  intro o C w hb ho
  have:splice C o []=C:=by simp[splice]
  rw[this,setRow_self w b C e (0,0) hb];rfl
 |cons v r ih=>
  intro o C w hb ho
  simp only[List.length_cons]at ho
  show(w.setCell ⟨b,o,none⟩ v).setCells b (o+1) r=_
  rw[ih (o+1) (C.setIfInBounds o v) _ (heap_setCell_same w b o C e v hb) (by simp;omega),setCell_eq_setRow w b o C e (0,0) v hb]
  have h1:splice (C.setIfInBounds o v) (o+1) r=splice C o (v::r):=by
   unfold splice
   congr 1
   rw[Array.toList_setIfInBounds]
   have ho':o<C.toList.length:=by simp;omega
   rw[List.take_set,List.drop_set_of_lt (by omega)]
   rw[List.take_succ_eq_append_getElem ho',List.set_append_right _ _ (by simp;omega)]
   simp[Nat.add_assoc,Nat.add_comm 1]
   have:min o C.size=o:=by omega
   simp[this]
  rw[h1]
  simp only[World.setRow]
  congr 1
  apply Array.ext_getElem?
  intro i
  simp only[Array.getElem?_modify]
  by_cases hi:b=i
  .subst hi;simp[hb]
  .simp[hi]

theorem In.apart {w:World} {x:More} {f g:Ac} (h:In w.heap.size x g) (hl:Bu f w):f.apart g:=Ac.apart_of hl.lt h.from_
def Bjc (w:World) (n:Nat) (left:Int) (e:Ending) (w':World):Prop:=∃r:Int,e= .returned (.int .i64 r)/\r<=left/\Hid (r=szb n left)/\ ∃x,w'=w.ext x
theorem Bjc.mk {w:World} {n:Nat} {left r:Int} {w':World} (h:szb n left=r) (hle:r<=left) (g:Dc w w'):Bjc w n left (.returned (.int .i64 r)) w':=⟨r,rfl,hle,h.symm,g⟩

def RdI (f:Ac) (s:Value) (l:List Int):Prop:=Ab0 f s l.length (Btd l)
def Bte (f:Ac) (s:Value) (l:List Int):Prop:=Dw 3 1 f s l.length (Btd l)
theorem Bte.rd {f:Ac} {s:Value} {l:List Int} (h:Bte f s l):RdI f s l:=Dw.rd h
theorem Bte.form {f:Ac} {s:Value} {l:List Int} (h:Bte f s l): ∃a cap,s= .slice a l.length cap:=Dw.form h
theorem RdI.out {f:Ac} {s:Value} {l:List Int} (h:RdI f s l): ∃a cap,s= .slice a l.length cap/\l.length<=cap/\cap<=maxLen/\
  (∀i,i<l.length-> ∃b o,a=some ⟨b,o,none⟩/\f.cell b (o+i)=some (.int .i64 (l.getD i 0))):=by
 obtain⟨a,cap,rfl,h1,h2,h3⟩:=h
 refine⟨a,cap,rfl,h1,h2,fun i hi=>?_⟩
 cases a with
 |none=>have h3:=h3.2;simp[Btd]at h3;subst h3;simp at hi
 |some ad=>
  obtain⟨b,o,sp⟩:=ad
  obtain⟨hs,h4⟩:=h3 i (.int .i64 (l.getD i 0)) (by simp[Btd,List.getD,List.getElem?_eq_getElem hi])
  simp only at hs
  subst hs
  exact⟨b,o,rfl,h4⟩
def A3w (f:Ac) (cs:List Value) (a:List UInt8):Prop:=∃p c,cs=[.slice p a.length c]/\RdB f (.slice p a.length c) a
def Bme (f:Ac) (cs:List Value) (a:List UInt8):Prop:=∃p c,cs=[.slice p a.length c]/\Beg f (.slice p a.length c) a
theorem A51 (f g:Ac) (cs:List Value) (a:List UInt8) (h:A3w f cs a) (hg:f.sub g):A3w g cs a:=by
 obtain⟨p,c,rfl,h⟩:=h;exact⟨p,c,rfl,Ab0.sub h hg⟩
theorem Bpf (f:Ac) (cs:List Value) (a:List UInt8) (h:Bme f cs a):A3w f cs a:=by
 obtain⟨p,c,rfl,h⟩:=h;exact⟨p,c,rfl,Beg.rd h⟩
def Btf (f:Ac) (s:Value) (l:List (List UInt8)):Prop:=Ab3 1 A3w f s l
def Bjd (f:Ac) (s:Value) (l:List (List UInt8)):Prop:=Zs 22 1 Bme f s l
theorem Btf.sub {f g:Ac} {s:Value} {l:List (List UInt8)} (h:Btf f s l) (hg:f.sub g):Btf g s l:=Ab3.sub A51 h hg
theorem Bjd.rd {f:Ac} {s:Value} {l:List (List UInt8)} (h:Bjd f s l):Btf f s l:=Zs.rd Bpf A51 h
theorem Bjd.form {f:Ac} {s:Value} {l:List (List UInt8)} (h:Bjd f s l): ∃a cap,s= .slice a l.length cap:=Zs.form h
def More.sub (x y:More):Prop:=∀(k:Nat) (o:Obj),x.blocks[k]? =some o->y.blocks[k]? =some o
theorem In.mono {n:Nat} {x y:More} {f:Ac} (h:In n x f) (hs:x.sub y):In n y f:=fun k o e=>⟨(h k o e).1,hs _ _ (h k o e).2⟩
theorem Bwh (w:World) (x y:More): ∃z,(w.ext x).ext y=w.ext z/\x.sub z:=by
 refine⟨_,Bqe w x y,fun k o e=>?_⟩
 rw[Array.getElem?_append_left (Array.getElem?_eq_some_iff.1 e).1];exact e
theorem Dc.merge {w w':World} {x:More} (h:Dc (w.ext x) w'): ∃z,w'=w.ext z/\x.sub z:=by
 obtain⟨y,rfl⟩:=h;exact Bwh w x y
theorem Ret.merge {w:World} {x:More} {v:Value} {e:Ending} {w':World} (h:Ret (w.ext x) v e w'):e= .returned v/\ ∃z,w'=w.ext z/\x.sub z:=⟨h.1,h.2.merge⟩
theorem Bjc.merge {w:World} {x:More} {n:Nat} {left:Int} {e:Ending} {w':World} (h:Bjc (w.ext x) n left e w'):
  ∃r:Int,e= .returned (.int .i64 r)/\r<=left/\Hid (r=szb n left)/\ ∃z,w'=w.ext z/\x.sub z:=by
 obtain⟨r,h1,h2,h3,h4⟩:=h
 exact⟨r,h1,h2,h3,Dc.merge h4⟩
theorem In.apart_from {w:World} {x:More} {f g:Ac} {n:Nat} (h:In w.heap.size x f) (hg:g.from_ n) (hn:n=w.heap.size+x.blocks.size):f.apart g:=by
 subst hn
 have hb:f.below (w.heap.size+x.blocks.size):=by have:=(h.lies rfl).lt;simpa using this
 exact Ac.apart_of hb hg
theorem Ab1.merge {w:World} {x:More} {Ψ:Value->Ac->Prop} {e:Ending} {w':World} (h:Ab1 (w.ext x) Ψ e w'):
  ∃v f z,e= .returned v/\w'=w.ext z/\x.sub z/\In w.heap.size z f/\(∀g,In w.heap.size x g->f.apart g)/\Ψ v f:=by
 obtain⟨v,f,h1,h2,h3,h4,h5⟩:=h
 obtain⟨z,rfl,hs⟩:=h2.merge
 refine⟨v,f,z,h1,rfl,hs,In.of_lies h3 (Ac.from_mono h4 (by simp)),fun g hg=>Ac.apart_symm (In.apart_from hg h4 (by simp)),h5⟩
theorem In.join {n:Nat} {x:More} {f g:Ac} (hf:In n x f) (hg:In n x g):In n x (f.join g):=fun k o e=>by
 cases y:f k with
 |none=>simp[Ac.join,y]at e;exact hg k o e
 |some o'=>simp[Ac.join,y]at e;exact hf k o (by rw[y,e])
def Xa (W:World):Ac:=fun k=>W.heap[k]?
theorem Bb4 {W:World} {a:Addr} {v:Value} (h:W.cell? a=some v):a.spot=none/\(Xa W).cell a.block a.off=some v:=by
 unfold World.cell? at h
 unfold Ac.cell Xa
 cases e:W.heap[a.block]? with
 |none=>rw[e]at h;cases h
 |some o=>
  rw[e]at h
  cases o<;>simp at h
  rename_i c t fr
  exact h
def Btg (P:Program) (t:TypeId) {α:Type} (rd:Ac->List Value->α->Prop):Prop:=
 ∀(H:Type) (enc:TypeId×Value->H) (w:World) (base:Nat) (sp:Nat->Bool) (held:Bool) (fuel:Nat) (cs:List Value) (x:DataW H×List MemPlace),
  DataW.trod enc P w base sp held fuel t cs=some x-> ∃a:α,rd (Xa w) cs a
theorem Ayr {α:Type} (f:Nat->α) (n i:Nat) (x:α) (h:((List.range n).map f)[i]? =some x):i<n/\f i=x:=by
 rw[List.getElem?_map]at h
 by_cases hi:i<n
 .rw[List.getElem?_range hi]at h;simp at h;exact⟨hi,h⟩
 .rw[List.getElem?_eq_none (by simpa using hi)]at h;cases h
theorem Bpg {P:Program} {t e:TypeId} {α:Type} {rd:Ac->List Value->α->Prop} {sz:Nat} (ht:P.underlying t=some (.slice e)) (hc:P.cellsOf e=sz) (h0:0<sz) (he:Btg P e rd):
  Btg P t (fun f cs (l:List α)=>∃p c,cs=[.slice p l.length c]/\Ab3 sz rd f (.slice p l.length c) l):=by
 intro H enc w base sp held fuel cs x h
 rcases Go.Deep.open_slice ht h with⟨rfl,_⟩|⟨a,len,cap,m,n,D,Pl,rfl,hb,hl,hm,hmm,_,hx⟩
 .exact⟨[],none,0,rfl,[],⟨none,0,rfl,Nat.le_refl _,Nat.zero_le _,rfl,rfl⟩,rfl,fun i c a hc=>by simp at hc⟩
 .have hlm:len<=m:=by rw[hmm];split<;>omega
  have key: ∀i,i<len-> ∃ca:List Value×α,w.cells? base (a.add (i*sz)) sz=some ca.1/\rd (Xa w) ca.1 ca.2:=fun i hi=>by
   obtain⟨cs',h1,h2⟩:=hx i (by omega)
   obtain⟨av,h3⟩:=he _ _ _ _ _ _ _ _ _ h2
   exact⟨(cs',av),by rw[hc]at h1;exact h1,h3⟩
  by_cases hz:len=0
  .subst hz
   exact⟨[],some a,cap,rfl,[],⟨some a,cap,rfl,Nat.zero_le _,hm,fun i c hc=>by simp at hc⟩,rfl,fun i c a hc=>by simp at hc⟩
  .have:Inhabited (List Value×α):=⟨Classical.choose (key 0 (by omega))⟩
   obtain⟨F,hF⟩:=Go.Deep.choose_lt (α:=List Value×α) key
   have hlen: ∀i,i<len->(F i).1.length=sz:=fun i hi=>(World.cells?_some (hF i hi).1).2.1
   refine⟨(List.range len).map fun i=>(F i).2,some a,cap,by simp,(List.range len).map fun i=>(F i).1,?_,by simp,fun i c av hc' ha=>?_⟩
   .refine⟨some a,cap,by simp,by simpa using hl,hm,fun i c hc'=>?_⟩
    have hall: ∀c∈(List.range len).map (fun i=>(F i).1),c.length=sz:=fun c hcm=>by
     obtain⟨i,hi,rfl⟩:=List.mem_map.1 hcm
     exact hlen i (by simpa using hi)
    have hi:i<((List.range len).map fun i=>(F i).1).flatten.length:=(List.getElem?_eq_some_iff.1 hc').1
    rw[Fg hall]at hi
    simp only[List.length_map,List.length_range]at hi
    have hq:i/sz<len:=Nat.div_lt_of_lt_mul (by rw[Nat.mul_comm];exact hi)
    have hr:i%sz<sz:=Nat.mod_lt _ h0
    have hsplit:i/sz*sz+i%sz=i:=by rw[Nat.mul_comm];exact Nat.div_add_mod i sz
    have hget:=Ft hall (i:=i/sz) (j:=i%sz) (c:=(F (i/sz)).1) (by rw[List.getElem?_map,List.getElem?_range hq];rfl) hr
    rw[hsplit,hc']at hget
    have hcell:=((World.cells?_some (hF _ hq).1).2.2 (i%sz) hr).trans hget.symm
    rw[Go.Deep.add_add,hsplit]at hcell
    obtain⟨h5,h6⟩:=Bb4 hcell
    unfold Addr.add at h5 h6
    split at h5
    .rename_i hi0;subst hi0;exact⟨h5,by simpa using h6⟩
    .rename_i hi0
     simp only[hi0,if_false]at h6
     have h00:=((World.cells?_some (hF 0 (by omega)).1).2.2 0 h0).trans (List.getElem?_eq_getElem (by rw[hlen 0 (by omega)];exact h0))
     rw[Go.Deep.add_add]at h00
     have h7:=(Bb4 h00).1
     simp[Addr.add]at h7
     exact⟨h7,h6⟩
   .obtain⟨h1,h2⟩:=Ayr _ _ _ _ hc'
    obtain⟨_,h3⟩:=Ayr _ _ _ _ ha
    rw[<-h2,<-h3]
    exact⟨hlen i h1,(hF i h1).2⟩
theorem Ayq {H:Type} {enc:TypeId×Value->H} {P:Program} (hl:laidOutB P=true) {W W':World} (hb:Below W.heap.size W W'): ∀ {ts:List TypeId} {vs:List Value} {ds:List (DataW H)} {ps:List MemPlace},
  (∀t∈ts,P.readableRec t=true/\t<P.types.size)->DataW.TrodAll enc P W 0 (fun _=>true) true ts vs ds ps->(∀x∈ps,x.block<W.heap.size)->
  DataW.TrodAll enc P W' 0 (fun b=>decide (b<W.heap.size)) true ts vs ds ps
 |[],[],[],ps,_,h,_=>h
 |t::ts,v::vs,d::ds,ps,ht,⟨p,q,h1,h2,h3⟩,hlt=>by
  subst h3
  exact⟨p,q,Below.trod hl (ht t (by simp)).1 (ht t (by simp)).2 h1 hb (fun x hx=>hlt x (by simp[hx])),
   Ayq hl hb (fun t' h'=>ht t' (by simp[h'])) h2 (fun x hx=>hlt x (by simp[hx])),rfl⟩

end
section

inductive Sh where
 |int (k:IntKind)
 |bool
 |str
 |sl (e:Nat) (cs:List Sh)
 |junk

mutual
def Sh.beq:Sh->Sh->Bool
 | .int k,.int j=>decide (k=j)
 | .bool,.bool=>true
 | .str,.str=>true
 | .sl e cs,.sl f ds=>Nat.beq e f && Sh.beqs cs ds
 | .junk,.junk=>true
 |_,_=>false
def Sh.beqs:List Sh->List Sh->Bool
 |[],[]=>true
 |a::r,b::s=>Sh.beq a b && Sh.beqs r s
 |_,_=>false
end
mutual
theorem Sh.eq_of_beq: ∀(a b:Sh),Sh.beq a b=true->a=b
 | .int k,b,h=>by cases b<;>simp_all [Sh.beq]
 | .bool,b,h=>by cases b<;>simp_all [Sh.beq]
 | .str,b,h=>by cases b<;>simp_all [Sh.beq]
 | .junk,b,h=>by cases b<;>simp_all [Sh.beq]
 | .sl e cs,b,h=>by
  cases b with
  |sl f ds=>
   simp only[Sh.beq,Bool.and_eq_true]at h
   have h1:=Nat.eq_of_beq_eq_true h.1
   have h2:=Sh.eq_of_beqs cs ds h.2
   rw[h1,h2]
  |_=>simp[Sh.beq]at h
theorem Sh.eq_of_beqs: ∀(a b:List Sh),Sh.beqs a b=true->a=b
 |[],b,h=>by cases b<;>simp_all [Sh.beqs]
 |a::r,b,h=>by
  cases b with
  |nil=>simp[Sh.beqs]at h
  |cons b s=>
   simp only[Sh.beqs,Bool.and_eq_true]at h
   rw[Sh.eq_of_beq a b h.1,Sh.eq_of_beqs r s h.2]
end
mutual
theorem Sh.beq_refl: ∀(a:Sh),Sh.beq a a=true
 | .int k=>by simp[Sh.beq]
 | .bool=>by simp[Sh.beq]
 | .str=>by simp[Sh.beq]
 | .junk=>by simp[Sh.beq]
 | .sl e cs=>by simp[Sh.beq,Sh.beqs_refl cs]
theorem Sh.beqs_refl: ∀(a:List Sh),Sh.beqs a a=true
 |[]=>by simp[Sh.beqs]
 |a::r=>by simp[Sh.beqs,Sh.beq_refl a,Sh.beqs_refl r]
end
instance Sh.decEq (a b:Sh):Decidable (a=b):=
 match h:Sh.beq a b with
 |true=>isTrue (Sh.eq_of_beq a b h)
 |false=>isFalse fun e=>by rw[e,Sh.beq_refl]at h;cases h
instance Sh.decEqs (a b:List Sh):Decidable (a=b):=
 match h:Sh.beqs a b with
 |true=>isTrue (Sh.eq_of_beqs a b h)
 |false=>isFalse fun e=>by rw[e,Sh.beqs_refl]at h;cases h

mutual
@[reducible] def Sh.den:Sh->Type
 | .int _=>Int
 | .bool=>Bool
 | .str=>ByteArray
 | .junk=>Unit
 | .sl _ cs=>List (dens cs)
@[reducible] def dens:List Sh->Type
 |[]=>Unit
 |s::r=>s.den×dens r
end
def Sh.zero:(s:Sh)->s.den
 | .int _=>(0:Int)
 | .bool=>false
 | .str=>ByteArray.empty
 | .junk=>()
 | .sl _ cs=>([]:List (dens cs))
def Ami:(cs:List Sh)->dens cs
 |[]=>()
 |s::r=>(s.zero,Ami r)

abbrev A9:=Nat->Nat->Option Value
def A9.sub (G H:A9):Prop:=∀b o v,G b o=some v->H b o=some v
def TL:List (Nat×Array Value):=[]
def TOk (w:World) (f:Ac):Prop:=∀x:Nat×Array Value,x∈TL->(∃e d,w.heap[x.1]? =some (.cells x.2 e d))/\f x.1=none
def Ez (G:A9) (w:World):Prop:=∀b o v,G b o=some v->w.cell? ⟨b,o,none⟩=some v

mutual
def RdD (G:A9):(s:Sh)->s.den->Value->Prop
 | .int k,n,v=>v= .int k n/\(Lit.int k n).wf=true
 | .bool,b,v=>v= .bool b
 | .str,b,v=>v= .string b
 | .junk,_,v=>v.oneCell'=true/\v.cells= #[v]
 | .sl _ cs,l,v=>∃a cap,v= .slice a l.length cap/\l.length<=cap/\cap<=maxLen/\(a=none->cap=0)/\
   ∀(i:Nat) (d:dens cs),l[i]? =some d-> ∃b o,a=some ⟨b,o,none⟩/\Eo G cs d b (o+i*cs.length)
def Eo (G:A9):(cs:List Sh)->dens cs->Nat->Nat->Prop
 |[],_,_,_=>True
 |s::r,d,b,o=>(∃v,G b o=some v/\RdD G s d.1 v)/\Eo G r d.2 b (o+1)
end

mutual
theorem RdD.sub {G H:A9} (hs:G.sub H): ∀(s:Sh) (d:s.den) (v:Value),RdD G s d v->RdD H s d v
 | .int _,_,_,h=>by simpa only[RdD] using h
 | .bool,_,_,h=>by simpa only[RdD] using h
 | .str,_,_,h=>by simpa only[RdD] using h
 | .junk,_,_,h=>by simpa only[RdD] using h
 | .sl _ cs,l,v,h=>by
  simp only[RdD]at h ⊢
  obtain⟨a,cap,h1,h2,h3,h5,h4⟩:=h
  exact⟨a,cap,h1,h2,h3,h5,fun i d hd=>let ⟨b,o,e,h⟩:=h4 i d hd;⟨b,o,e,Eo.sub hs cs d b _ h⟩⟩
theorem Eo.sub {G H:A9} (hs:G.sub H): ∀(cs:List Sh) (d:dens cs) (b o:Nat),Eo G cs d b o->Eo H cs d b o
 |[],_,_,_,_=>by simp only[Eo]
 |s::r,d,b,o,h=>by
  simp only[Eo]at h ⊢
  obtain⟨⟨v,h1,h2⟩,h3⟩:=h
  exact⟨⟨v,hs _ _ _ h1,RdD.sub hs s d.1 v h2⟩,Eo.sub hs r d.2 b _ h3⟩
end

mutual
def Bf (f:Ac):(s:Sh)->s.den->Value->Prop
 | .int k,n,v=>v= .int k n/\(Lit.int k n).wf=true
 | .bool,b,v=>v= .bool b
 | .str,b,v=>v= .string b
 | .junk,_,v=>v.oneCell'=true/\v.cells= #[v]
 | .sl e cs,l,v=>Zs e cs.length (fun h c d=>By h cs d c) f v l
def By (f:Ac):(cs:List Sh)->dens cs->List Value->Prop
 |[],_,c=>c=[]
 |s::r,d,c=>∃v t g h,c=v::t/\Fb f [g,h]/\Bf g s d.1 v/\By h r d.2 t
end

def Bth (G:A9) (sz:Nat) (v:Value):Prop:=∀b n cap,v= .slice (some ⟨b,0,none⟩) n cap-> ∀o,n*sz<=o->G b o=none
def B9 (f:Ac):A9:=fun b o=>f.cell b o
theorem Jp {f g:Ac} (h:f.sub g):A9.sub (B9 f) (B9 g):=fun _ _ _ e=>Ac.cell_sub h e
theorem By.len {f:Ac}: ∀ {cs:List Sh} {d:dens cs} {c:List Value},By f cs d c->c.length=cs.length
 |[],_,_,h=>by simp only[By]at h;simp[h]
 |s::r,d,c,h=>by
  simp only[By]at h
  obtain⟨v,t,g,h',rfl,_,_,h2⟩:=h
  simp[By.len h2]
mutual
theorem Bf.rdIn: ∀(s:Sh) (f:Ac) (d:s.den) (v:Value) (G:A9),Bf f s d v->(∀b o x,B9 f b o=some x->(∀n cap,v= .slice (some ⟨b,0,none⟩) n cap->o<n*(match s with| .sl _ cs=>cs.length|_=>1))->G b o=some x)->RdD G s d v
 | .int k,f,n,v,G,h,_=>by simpa only[Bf,RdD] using h
 | .bool,f,n,v,G,h,_=>by simpa only[Bf,RdD] using h
 | .str,f,n,v,G,h,_=>by simpa only[Bf,RdD] using h
 | .junk,f,n,v,G,h,_=>by simpa only[Bf,RdD] using h
 | .sl e cs,f,l,v,G,h,hG=>by
  simp only[Bf]at h
  simp only at hG
  obtain⟨css,g,hs,hrow,hp,hel⟩:=h
  simp only[RdD]
  obtain⟨a,cap,rfl,h1,h2,h3⟩:=hrow.rd
  refine⟨a,cap,rfl,h1,h2,fun ha=>by subst ha;exact h3.1,fun i d hd=>?_⟩
  obtain⟨hl,⟨⟨a',hE⟩,hz⟩|⟨b,cap',cur,hE,hg,hnc,hcm,hsz,htk⟩⟩:=hrow
  .rw[List.eq_nil_of_length_eq_zero hz]at hd;simp at hd
  .cases hE
   refine⟨b,0,rfl,?_⟩
   have hi:i<l.length:=(List.getElem?_eq_some_iff.1 hd).1
   have hic:i<css.length:=by rw[hel.1];exact hi
   have hih:i<hs.length:=by rw[hel.2.1];exact hi
   obtain⟨hlen,hown⟩:=hel.2.2 i _ _ d (List.getElem?_eq_getElem hih) (List.getElem?_eq_getElem hic) hd
   have hap:g.apart hs[i]:=(List.pairwise_cons.1 hp.1).1 _ (List.getElem_mem _)
   refine By.rdIn cs hs[i] d css[i] G hown (fun b' o x hx=>hG b' o x (Jp (hp.2 _ (by simp[List.getElem_mem])) _ _ _ hx) (fun n cap hE=>?_)) b _ (fun j v hv=>?_)
   .exfalso
    cases hE
    rcases hap b with hh|hh
    .rw[hg]at hh;cases hh
    .unfold B9 Ac.cell at hx;rw[hh]at hx;cases hx
   .have hj:j<cs.length:=by have:=(List.getElem?_eq_some_iff.1 hv).1;omega
    have hflat:css.flatten[i*cs.length+j]? =some v:=by
     rw[Ft hel.len (List.getElem?_eq_getElem hic) hj];exact hv
    refine hG b _ v ?_ (fun n cap hE=>?_)
    .have h4:=(h3 _ _ hflat).2
     unfold B9
     have h5:=Ac.cell_sub (hp.2 g (by simp)) h4
     simpa [Nat.zero_add,Nat.add_assoc] using h5
    .cases hE
     have:i*cs.length+cs.length<=l.length*cs.length:=by rw[<-Nat.succ_mul];exact Nat.mul_le_mul_right _ hi
     omega
theorem By.rdIn: ∀(cs:List Sh) (f:Ac) (d:dens cs) (c:List Value) (G:A9),By f cs d c->(∀b o x,B9 f b o=some x->G b o=some x)-> ∀b o,(∀j v,c[j]? =some v->G b (o+j)=some v)->Eo G cs d b o
 |[],_,_,_,_,_,_,_,_,_=>by simp only[Eo]
 |s::r,f,d,c,G,h,hG,b,o,hc=>by
  simp only[By]at h
  obtain⟨v,t,g,h',rfl,hp,h1,h2⟩:=h
  simp only[Eo]
  refine⟨⟨v,by simpa using hc 0 v rfl,Bf.rdIn s g d.1 v G h1 (fun b o x hx _=>hG _ _ _ (Jp (hp.2 g (by simp)) _ _ _ hx))⟩,?_⟩
  exact By.rdIn r h' d.2 t G h2 (fun b o x hx=>hG _ _ _ (Jp (hp.2 h' (by simp)) _ _ _ hx)) b (o+1) (fun j v hv=>by
   have:=hc (j+1) v (by simpa using hv);rw[show o+1+j=o+(j+1) by omega];exact this)
end
def Kr:Sh->Nat
 | .sl _ cs=>cs.length
 |_=>1
open Classical in
theorem Bf.use {s:Sh} {f:Ac} {d:s.den} {v:Value} (h:Bf f s d v): ∃U:A9,U.sub (B9 f)/\RdD U s d v/\Bth U (Kr s) v:=by
 refine⟨fun b o=>if (∃n cap,v= .slice (some ⟨b,0,none⟩) n cap/\n*Kr s<=o)then none else B9 f b o,?_,?_,?_⟩
 .intro b o x hx
  simp only at hx
  split at hx
  .cases hx
  .exact hx
 .refine Bf.rdIn s f d v _ h (fun b o x hx hn=>?_)
  rw[if_neg,hx]
  rintro⟨n,cap,hv,ho⟩
  have:=hn n cap hv
  cases s<;>simp[Kr]at ho<;>simp at this<;>omega
 .intro b n cap hv o ho
  simp only
  rw[if_pos ⟨n,cap,hv,ho⟩]
mutual
theorem Bf.sub: ∀(s:Sh) (f g:Ac) (d:s.den) (v:Value),Bf f s d v->f.sub g->Bf g s d v
 | .int k,_,_,_,_,h,_=>by simpa only[Bf] using h
 | .bool,_,_,_,_,h,_=>by simpa only[Bf] using h
 | .str,_,_,_,_,h,_=>by simpa only[Bf] using h
 | .junk,_,_,_,_,h,_=>by simpa only[Bf] using h
 | .sl e cs,f,g,l,v,h,hs=>by
  simp only[Bf]at h ⊢
  obtain⟨css,r,hs',h1,h2,h3⟩:=h
  exact⟨css,r,hs',h1,h2.sub hs,h3⟩
end
theorem By.sub: ∀ {cs:List Sh} {f g:Ac} {d:dens cs} {c:List Value},By f cs d c->f.sub g->By g cs d c
 |[],_,_,_,_,h,_=>by simpa only[By] using h
 |s::r,f,g,d,c,h,hs=>by
  simp only[By]at h ⊢
  obtain⟨v,t,p,q,h0,h1,h2,h3⟩:=h
  exact⟨v,t,p,q,h0,h1.sub hs,h2,h3⟩
end
section
noncomputable section

inductive Tok where
 |ro
 |rd
 |nil
 |own (t:Nat)
 |row (t:Nat)
 |pin (j:Nat)
 |elt (t e:Nat) (cs:List Sh) (l:List (dens cs)) (i:Nat) (d:dens cs) (j:Nat)
 |bag (t lo:Nat)
 |one (s i t:Nat)
 |nst (t:Nat)
 |prt (t e:Nat) (cs:List Sh) (l:List (dens cs)) (lo:Option Nat)
 |grd (t:Nat)
structure Cl where
 sh:Sh
 val:sh.den
 tok:Tok
structure Place where
 t:Nat
 e:Nat
 cs:List Sh
 l:List (dens cs)
 i:Nat
 d:dens cs
 off:Nat
inductive PV where
 |any
 |v (agg:Bool) (xs:List Cl)
 |box (b off:Nat)
 |el (p:Option Place) (ro:Bool) (xs:List Cl)
 |tup (xs:List (Bool×List Cl))
structure St where
 env:List (Nat×PV)
 boxes:List (Nat×List Cl)
 live:List Nat
 used:List Nat
def look (i:Nat):List (Nat×PV)->PV
 |[]=>.any
 |(j,x)::r=>cond (Nat.beq i j) x (look i r)
def Cr (i:Nat):List (Nat×List Cl)->Option (List Cl)
 |[]=>none
 |(j,x)::r=>cond (Nat.beq i j) (some x) (Cr i r)
def St.get (st:St) (i:Nat):PV:=look i st.env
def St.bx (st:St) (i:Nat):Option (List Cl):=Cr i st.boxes
def St.has (st:St) (i:Nat):Bool:=(st.bx i).isSome
def St.set (st:St) (i:Nat) (x:PV):St:={st with env:=(i,x)::st.env}
def St.put (st:St) (d:Option Nat) (x:PV):St:=match d with|some i=>st.set i x|none=>st

structure Ty where
 agg:Bool
 shs:List Sh
 offs:List (Nat×Nat)
 eq:Bool
 fty:List Nat:=[]
abbrev Tys:=Nat->Option Ty

structure Sg where
 sh:Sh
 val:sh.den
abbrev RV:=Bool×List Sg

def br {ρ:Type} (b:Bool) (x y:Option ρ):Option ρ:=match b with|true=>x|false=>y
def brf {ρ:Type} (b:Bool) (f:Bool->Option ρ):Option ρ:=br b (f true) (f false)
def chk {ρ:Type} (b:Bool) (x:Option ρ):Option ρ:=match b with|true=>x|false=>none
def ob {α ρ:Type} (x:Option α) (f:α->Option ρ):Option ρ:=match x with|some a=>f a|none=>none
def sm {α β ρ:Type} (x:α⊕β) (f:α->Option ρ) (g:β->Option ρ):Option ρ:=match x with| .inl a=>f a| .inr b=>g b
inductive Tree (α:Type):Type 1 where
 |leaf (x:α)
 |fail
 |chk (b:Bool) (t:Tree α)
 |br (b:Bool) (t f:Tree α)
 |ob {β:Type} (x:Option β) (f:β->Tree α)
 |sm {β γ:Type} (x:β⊕γ) (f:β->Tree α) (g:γ->Tree α)
def Tree.run {α ρ:Type}:Tree α->(α->Option ρ)->Option ρ
 | .leaf x,k=>k x
 | .fail,_=>none
 | .chk b t,k=>YthccfdmiejmbaaaGreat.chk b (t.run k)
 | .br b t f,k=>YthccfdmiejmbaaaGreat.br b (t.run k) (f.run k)
 | .ob x f,k=>YthccfdmiejmbaaaGreat.ob x fun c=>(f c).run k
 | .sm x f g,k=>YthccfdmiejmbaaaGreat.sm x (fun c=>(f c).run k) fun c=>(g c).run k
def Tree.val {α:Type} (t:Tree α):Option α:=t.run some
abbrev An:=List RV->Tree (List RV×List RV)
abbrev Ctr:=Nat->An

def Aky:(s:Sh)->Value->Option s.den
 | .int k,.int j n=>if k=j then(if (Lit.int k n).wf=true then some n else none)else none
 | .bool,.bool b=>some b
 | .str,.string b=>some b
 | .sl _ cs,.slice none 0 0=>some ([]:List (dens cs))
 |_,_=>none
def Nq:List Sh->List Value->Option (List Cl)
 |[],[]=>some []
 |s::r,v::t=>ob (Aky s v) fun d=>ob (Nq r t) fun xs=>some (⟨s,d,.nil⟩::xs)
 |_,_=>none
def Bti (agg:Bool) (shs:List Sh) (v:Value):Option PV:=
 match agg,v with
 |true,.agg c=>ob (Nq shs c.toList) fun xs=>some (.v true xs)
 |true,_=>none
 |false,v=>ob (Nq shs [v]) fun xs=>some (.v false xs)
def evO (ty:Tys) (st:St) (t:Nat):Operand->Option PV
 | .tmp i=>some (st.get i)
 | .const v=>match ty t with
  |some T=>Bti T.agg T.shs v
  |none=>some .any
 |_=>none
def ev1 (ty:Tys) (st:St) (t:Nat) (x:Operand):Option Cl:=
 ob (evO ty st t x) fun p=>match p with
  | .v false [c]=>some c
  |_=>none
def evS (s:Sh) (c:Cl):Option s.den:=if h:c.sh=s then some (h▸c.val)else none
def evI (ty:Tys) (st:St) (t:Nat) (x:Operand):Option Int:=
 ob (ev1 ty st t x) fun c=>match c with
  |⟨.int .i64,n,_⟩=>some n
  |_=>none
def evB (ty:Tys) (st:St) (t:Nat) (x:Operand):Option Bool:=
 ob (ev1 ty st t x) fun c=>match c with
  |⟨.bool,b,_⟩=>some b
  |_=>none

def Ep:Sh->Bool
 | .sl _ _=>true
 |_=>false
def Jq (s:Sh) (t:Tok):Tok:=match s with
 | .sl _ _=>t
 |_=>.nil
def A8d (s:Sh):Tok:=Jq s .ro
def Bmf (k:Nat->Tok):Nat->(cs:List Sh)->dens cs->List Cl
 |_,[],_=>[]
 |j,s::r,d=>⟨s,d.1,Jq s (k j)⟩::Bmf k (j+1) r d.2
def Akz:(cs:List Sh)->List Cl->Option (dens cs)
 |[],[]=>some ()
 |s::r,x::xs=>ob (evS s x) fun d=>ob (Akz r xs) fun e=>some (d,e)
 |_,_=>none
def Ma:(cs:List Sh)->dens cs->Nat->List Cl->Option (dens cs)
 |_,d,_,[]=>some d
 |s::r,d,0,x::xs=>ob (evS s x) fun a=>ob (Ma r d.2 0 xs) fun e=>some (a,e)
 |_::r,d,n+1,x::xs=>ob (Ma r d.2 n (x::xs)) fun e=>some (d.1,e)
 |[],_,_,_::_=>none
def A2w (cs:List Sh):List Cl:=cs.map fun s=>⟨s,s.zero,.nil⟩
def idx {α:Type} (l:List α) (n:Int):Option α:=if 0<=n then l[n.toNat]? else none
def Bn {α:Type} (l:List α) (o:Nat) (xs:List α):List α:=l.take o++xs++l.drop (o+xs.length)

def Ss (x:Cl):Option (List Nat):=
 match x with
 |⟨.sl _ _,_,.own t⟩=>some [t]
 |⟨.sl _ _,_,.nst t⟩=>some [t]
 |⟨.sl _ _,_,.prt t _ _ _ none⟩=>some [t]
 |⟨.sl _ _,_,.nil⟩=>some []
 |⟨.sl _ _,_,_⟩=>none
 |_=>some []
def T7:List Cl->Option (List Nat)
 |[]=>some []
 |x::r=>ob (Ss x) fun l=>ob (T7 r) fun m=>some (l++m)
def eat (live:List Nat):List Nat->Option (List Nat)
 |[]=>some live
 |t::r=>cond (live.contains t) (eat (live.erase t) r) none
def Xw (used:List Nat):List Nat->Option (List Nat)
 |[]=>some used
 |t::r=>cond (used.contains t) none (Xw (t::used) r)
def Afa:Cl:=⟨.junk,(),.nil⟩
def E6 (t:Nat):List (Nat×Sg)->Option Sg
 |[]=>none
 |(u,s)::r=>cond (Nat.beq t u) (some s) (E6 t r)
def Ir (live:List Nat) (us:List (Nat×Sg)) (x:Cl):Cl:=
 match x.tok with
 | .ro=>x
 | .pin _=>x
 | .nil=>x
 | .own t=>match E6 t us with
  |some s=>cond (Sh.beq x.sh s.sh) ⟨s.sh,s.val,.own t⟩ Afa
  |none=>cond (live.contains t) x (cond (Ep x.sh) Afa ⟨x.sh,x.val,.nil⟩)
 | .grd t=>match E6 t us with
  |some _=>cond (Ep x.sh) Afa ⟨x.sh,x.val,.nil⟩
  |none=>cond (live.contains t) x (cond (Ep x.sh) Afa ⟨x.sh,x.val,.nil⟩)
 |_=>cond (Ep x.sh) Afa ⟨x.sh,x.val,.nil⟩
def Xb (live:List Nat) (us:List (Nat×Sg)):PV->PV
 | .v a xs=>.v a (xs.map (Ir live us))
 | .tup l=>.tup (l.map fun x=>(x.1,x.2.map (Ir live us)))
 | .box b o=>.box b o
 | .el p true xs=>.el none true (xs.map (Ir live us))
 |_=>.any
def Ih (live:List Nat) (t:Nat) (s:Sg) (x:Cl):Cl:=
 match x.tok with
 | .own u=>cond (Nat.beq u t) (cond (Sh.beq x.sh s.sh) ⟨s.sh,s.val,.rd⟩ Afa) (Ir live [] x)
 |_=>Ir live [] x
def Ro (live:List Nat) (t:Nat) (s:Sg):PV->PV
 | .v a xs=>.v a (xs.map (Ih live t s))
 | .tup l=>.tup (l.map fun x=>(x.1,x.2.map (Ih live t s)))
 | .box b o=>.box b o
 | .el p true xs=>.el none true (xs.map (Ih live t s))
 |_=>.any
inductive Ef where
 |none
 |newBox (cs:List Cl)
 |setBox (b off:Nat) (xs:List Cl)
 |toks (ate mk:List Nat)
 |bx (b:Nat) (cs:List Cl) (mk:List Nat)
 |rs (ate mk:List Nat) (us:List (Nat×Sg))
 |fz (t:Nat) (s:Sg)
def Ef.app (d:Option Nat) (st:St):Ef->Option St
 | .none=>some st
 | .newBox cs=>ob d fun k=>cond (st.has k) Option.none (some {st with boxes:=(k,cs)::st.boxes})
 | .setBox b off xs=>ob (st.bx b) fun cs=>chk (Nat.ble (off+xs.length) cs.length) (some {st with boxes:=(b,Bn cs off xs)::st.boxes})
 | .toks a m=>ob (eat st.live a) fun live=>ob (Xw st.used m) fun used=>some {st with live:=m.reverse++live,used:=used}
 | .bx b cs m=>ob (st.bx b) fun _=>ob (Xw st.used m) fun used=>some {st with boxes:=(b,cs)::st.boxes,live:=m.reverse++st.live,used:=used}
 | .rs a m us=>ob (eat st.live a) fun live=>chk (us.all fun u=>live.contains u.1) (ob (Xw st.used m) fun used=>
   some {env:=st.env.map fun p=>(p.1,Xb live us p.2),boxes:=st.boxes.map fun b=>(b.1,b.2.map (Ir live us)),live:=m.reverse++live,used:=used})
 | .fz t s=>ob (eat st.live [t]) fun live=>some {env:=st.env.map fun p=>(p.1,Ro live t s p.2),boxes:=st.boxes.map fun b=>(b.1,b.2.map (Ih live t s)),live:=live,used:=st.used}
def Ab5:List Sh->Bool
 |[]=>true
 | .sl _ _::_=>false
 |_::r=>Ab5 r

def Bb5 (op:BinOp) (k:IntKind) (x y:Int):Option Int:=
 match op with
 | .and=>some (k.wrap ((BitVec.ofInt k.bits x &&& BitVec.ofInt k.bits y).toNat:Nat))
 | .or=>some (k.wrap ((BitVec.ofInt k.bits x ||| BitVec.ofInt k.bits y).toNat:Nat))
 | .xor=>some (k.wrap ((BitVec.ofInt k.bits x ^^^ BitVec.ofInt k.bits y).toNat:Nat))
 | .andNot=>some (k.wrap ((BitVec.ofInt k.bits x &&& ~~~ BitVec.ofInt k.bits y).toNat:Nat))
 |_=>none
def B11 (op:BinOp) (x y:Int):Option Bool:=
 match op with
 | .eql=>some (x==y)| .neq=>some (x != y)| .lss=>some (decide (x<y))| .leq=>some (decide (x<=y))
 | .gtr=>some (decide (x>y))| .geq=>some (decide (x≥y))
 |_=>none
def Beh {ρ:Type} (op:BinOp) (k:IntKind) (x y:Int) (K:Cl->Option ρ):Option ρ:=
 match op with
 | .add=>K ⟨.int k,k.wrap (x+y),.nil⟩
 | .sub=>K ⟨.int k,k.wrap (x-y),.nil⟩
 | .mul=>K ⟨.int k,k.wrap (x*y),.nil⟩
 | .rem=>chk (decide (0<y)) (chk (decide (0<=x)) (K ⟨.int k,x%y,.nil⟩))
 | .quo=>chk (decide (0<y)) (chk (decide (0<=x)) (K ⟨.int k,x/y,.nil⟩))
 | .and| .or| .xor| .andNot=>ob (Bb5 op k x y) fun r=>K ⟨.int k,r,.nil⟩
 |_=>ob (B11 op x y) fun b=>K ⟨.bool,b,.nil⟩
def Ak0 {ρ:Type} (op:BinOp) (k:IntKind) (x y:Int) (K:Cl->Option ρ):Option ρ:=
 match op with
 | .shl=>chk (decide (0<=y)) (K ⟨.int k,k.wrap (x*2^(min y.toNat k.bits)),.nil⟩)
 | .shr=>chk (decide (0<=y)) (K ⟨.int k,x.fdiv (2^(min y.toNat k.bits)),.nil⟩)
 |_=>none
def C5:List Cl->List Cl->Option Bool
 |[],[]=>some true
 |⟨.int k,x,_⟩::r,⟨.int j,y,_⟩::s=>if k=j then ob (C5 r s) fun b=>some (and ((x:Int)==y) b)else none
 |⟨.bool,x,_⟩::r,⟨.bool,y,_⟩::s=>ob (C5 r s) fun b=>some (and ((x:Bool)==y) b)
 |_,_=>none
def Bei {ρ:Type} (T:Ty) (op:BinOp) (x y:PV) (K:Cl->Option ρ):Option ρ:=
 match x,y with
 | .v false [⟨.int k,a,_⟩],.v false [⟨.int j,b,_⟩]=>
  match op with
  | .shl=>Ak0 .shl k a b K
  | .shr=>Ak0 .shr k a b K
  |op=>if k=j then Beh op k a b K else none
 | .v false [⟨.bool,a,_⟩],.v false [⟨.bool,b,_⟩]=>
  match T.agg,T.shs,op with
  |false,[.bool],.eql=>K ⟨.bool,(a:Bool)==b,.nil⟩
  |false,[.bool],.neq=>K ⟨.bool,!((a:Bool)==b),.nil⟩
  |_,_,_=>none
 | .v false [⟨.str,a,_⟩],.v false [⟨.str,b,_⟩]=>
  match T.agg,T.shs,op with
  |false,[.str],.eql=>K ⟨.bool,decide ((a:ByteArray)=b),.nil⟩
  |false,[.str],.neq=>K ⟨.bool,!decide ((a:ByteArray)=b),.nil⟩
  |false,[.str],.add=>chk (decide ((a:ByteArray).size+(b:ByteArray).size<=4294967296)) (K ⟨.str,((a:ByteArray)++(b:ByteArray):ByteArray),.nil⟩)
  |_,_,_=>none
 | .v true xs,.v true ys=>
  chk (T.agg && T.eq && Sh.beqs (xs.map Cl.sh) T.shs)
  (match op with
  | .eql=>ob (C5 xs ys) fun b=>K ⟨.bool,b,.nil⟩
  | .neq=>ob (C5 xs ys) fun b=>K ⟨.bool,!b,.nil⟩
  |_=>none)
 |_,_=>none
def pun (op:UnOp) (x:PV):Option PV:=
 match op,x with
 | .not,.v false [⟨.bool,b,_⟩]=>some (.v false [⟨.bool,!(b:Bool),.nil⟩])
 | .neg,.v false [⟨.int k,n,_⟩]=>some (.v false [⟨.int k,k.wrap (0-(n:Int)),.nil⟩])
 |_,_=>none
def strip (p:Bool×List Cl):RV:=(p.1,p.2.map fun c=>⟨c.sh,c.val⟩)
def Dl (n:Nat):List Sg->List Cl×Nat
 |[]=>([],n)
 |⟨.sl e cs,d⟩::r=>let x:=Dl (n+1) r;(⟨.sl e cs,d,.own n⟩::x.1,x.2)
 |⟨s,d⟩::r=>let x:=Dl n r;(⟨s,d,.nil⟩::x.1,x.2)
def Dg (n:Nat):List RV->List (Bool×List Cl)×Nat
 |[]=>([],n)
 |(a,xs)::r=>let x:=Dl n xs;let y:=Dg x.2 r;((a,x.1)::y.1,y.2)
def Pp (T:Ty) (ty:Tys) (st:St):List Cl->List (Nat×Operand)->Option (List Cl)
 |cs,[]=>some cs
 |cs,(i,x)::r=>ob T.offs[i]? fun p=>
  ob (match x with
    | .tmp t=>(match st.get t with| .v _ xs=>some xs|_=>none)
    | .const (.agg c)=>Nq ((T.shs.drop p.1).take p.2) c.toList
    | .const v=>Nq ((T.shs.drop p.1).take 1) [v]
    |_=>none) fun xs=>
  chk (Nat.beq xs.length p.2 && Nat.ble (p.1+p.2) cs.length) (Pp T ty st (Bn cs p.1 xs) r)
def Vk (cs:List Sh) (st:St):Nat->List (Nat×Operand)->Option (List (dens cs)×List Nat)
 |_,[]=>some ([],[])
 |k,(i,x)::r=>chk (Nat.beq i k) (ob (Vk cs st (k+1) r) fun p=>
  ob (match x with
    | .tmp t=>(match st.get t with| .v _ xs=>some xs|_=>none)
    | .const (.agg c)=>Nq cs c.toList
    | .const v=>Nq cs [v]
    |_=>none) fun xs=>
  ob (Akz cs xs) fun d=>ob (T7 xs) fun l=>some (d::p.1,p.2++l))
def Pq (cs:List Sh) (st:St):Nat->List (Nat×Operand)->Option (List (dens cs))
 |_,[]=>some []
 |k,(i,x)::r=>chk (Nat.beq i k) (ob (Pq cs st (k+1) r) fun p=>
  ob (match x with
    | .tmp t=>(match st.get t with| .v _ xs=>some xs|_=>none)
    | .const (.agg c)=>Nq cs c.toList
    | .const v=>Nq cs [v]
    |_=>none) fun xs=>
  ob (Akz cs xs) fun d=>some (d::p))
def Lj (st:St):List (Nat×Operand)->Bool
 |[]=>true
 |(_,.tmp t)::r=>match st.get t with
  | .v _ xs=>match T7 xs with
   |some _=>Lj st r
   |none=>false
  |_=>false
 |_::r=>Lj st r
def H8 (l:List (dens [.int .u8])):ByteArray:=⟨(l.map fun d=>UInt8.ofNat (Int.toNat d.1)).toArray⟩
def L8 (s:ByteArray):List (dens [.int .u8]):=s.data.toList.map fun b=>((b.toNat:Int),())
def N8 (ty:Tys) (st:St):List Operand->List Nat->Option (List PV)
 |[],_=>some []
 |x::r,ts=>ob (evO ty st (ts.headD 0) x) fun p=>ob (N8 ty st r ts.tail) fun l=>some (p::l)
def D3 (st:St):List Nat->List PV->Option (List RV)
 |_,[]=>some []
 |ms,.v a xs::r=>cond (Nat.beq (ms.headD 0) 3) none (ob (D3 st ms.tail r) fun l=>some (strip (a,xs)::l))
 |ms,.box b 0::r=>cond (Nat.beq (ms.headD 0) 3) (ob (st.bx b) fun cs=>ob (D3 st ms.tail r) fun l=>some (strip (true,cs)::l)) none
 |_,_=>none
def Hu:List Nat->List PV->Option Nat
 |ms,.box b 0::r=>cond (Nat.beq (ms.headD 0) 3) (chk (ms.tail.all fun m=>Nat.beq m 0) (some b)) none
 |ms,.v _ _::r=>cond (Nat.beq (ms.headD 0) 0) (Hu ms.tail r) none
 |_,_=>none
def merge (pinned ro:Bool):List Cl->List Sg->Option (List Cl)
 |[],[]=>some []
 |x::xs,y::ys=>ob (merge pinned ro xs ys) fun r=>match y with
  |⟨.sl e cs,d⟩=>some (cond pinned x ⟨.sl e cs,d,cond ro .ro .rd⟩::r)
  |⟨s,d⟩=>some (⟨s,d,.nil⟩::r)
 |_,_=>none
def roC (x:Cl):Bool:=match x.tok with
 | .ro=>true
 | .pin _=>true
 | .nil=>true
 | .rd=> !Ep x.sh
 |_=>false
def roP:PV->Bool
 | .v _ xs=>xs.all roC
 | .box _ _=>true
 |_=>false
def Bb6 (cs:List Cl) (ps:List PV):Bool:=cs.all roC && ps.all roP
def L4:List Nat->List PV->Option (List Nat×List Nat)
 |_,[]=>some ([],[])
 |ms,.v _ xs::r=>ob (L4 ms.tail r) fun p=>match ms.headD 0 with
  |0=>some p
  |1=>ob (T7 xs) fun l=>some (p.1,l++p.2)
  |2=>ob (T7 xs) fun l=>some (l++p.1,l++p.2)
  |_=>none
 |_,_=>none
def T8:List Nat->Bool
 |[]=>true
 |t::r=> !r.contains t && T8 r
def Aps:List Cl->List Sg->Option (List (Nat×Sg))
 |[],[]=>some []
 |x::xs,y::ys=>ob (Aps xs ys) fun r=>match x with
  |⟨.sl e cs,_,.own t⟩=>chk (Sh.beq (.sl e cs) y.sh) (some ((t,y)::r))
  |_=>some r
 |_,_=>none
def Pr:List Nat->List PV->List RV->Option (List (Nat×Sg))
 |_,[],[]=>some []
 |ms,.v a xs::r,outs=>match ms.headD 0 with
  |1=>match outs with
   |o::os=>chk (a==o.1) <| ob (Aps xs o.2) fun u=>ob (Pr ms.tail r os) fun w=>some (u++w)
   |[]=>none
  |_=>Pr ms.tail r outs
 |_,_,_=>none
def A3x:List Cl->Option (List (Nat×Sg))
 |[]=>some []
 |x::xs=>ob (A3x xs) fun r=>match x with
  |⟨.sl e cs,l,tk⟩=>match tk with
   | .ro=>some r
   | .pin _=>some r
   | .nil=>some r
   | .own t=>some ((t,⟨.sl e cs,l⟩)::r)
   |_=>none
  |_=>some r
def Ab6:List Nat->List PV->Option (List (Nat×Sg))
 |_,[]=>some []
 |ms,.v _ xs::r=>ob (Ab6 ms.tail r) fun q=>cond (Nat.beq (ms.headD 0) 0) (ob (A3x xs) fun p=>some (p++q)) (some q)
 |_,_=>none
def Nr:List Nat->List PV->Option Cl
 |ms,.v false [x]::r=>cond (Nat.beq (ms.headD 0) 1) (chk (ms.tail.all fun m=>Nat.beq m 0) (some x)) (cond (Nat.beq (ms.headD 0) 0) (Nr ms.tail r) none)
 |ms,.v _ _::r=>cond (Nat.beq (ms.headD 0) 0) (Nr ms.tail r) none
 |_,_=>none
def args (ty:Tys) (st:St):List Operand->List Nat->Option (List RV)
 |[],_=>some []
 |x::r,ts=>ob (evO ty st (ts.headD 0) x) fun p=>match p with
  | .v a xs=>ob (args ty st r ts.tail) fun l=>some (strip (a,xs)::l)
  |_=>none
end
end
section
noncomputable section

def Aw4:Tok->Option (List Nat)
 | .own t=>some [t]
 | .row t=>some [t]
 | .nil=>some []
 |_=>none
def isRow:Tok->Bool
 | .row _=>true
 |_=>false
def Agq (cs:List Sh) (tx:Tok) (y:Cl):Bool×List Nat:=
 cond (isRow tx) (true,[]) (cond (Ab5 cs) (false,[]) (match Ss y with|some l=>(false,l)|none=>(true,[])))
def Ade {ρ:Type} (T:Ty) (n:Nat) (x y:Cl) (K:Cl->Ef->Option ρ):Option ρ:=
 match x,y with
 |⟨.sl e cs,l,tx⟩,⟨.sl e' cs',m,ty⟩=>
  match T.agg,T.shs with
  |false,[.sl e0 c0]=>if h:cs'=cs then if c0=cs then if e0=e then
   ob (Aw4 tx) fun a1=>
   chk (decide (List.length (α:=dens cs) l+List.length (α:=dens cs') m<=4294967296)) (let p:=Agq cs tx ⟨.sl e' cs',m,ty⟩
    K ⟨.sl e cs,(l++(h▸m:List (dens cs)):List (dens cs)),cond p.1 (.row n) (.own n)⟩ (.toks (a1++p.2) [n]))
   else none else none else none
  |_,_=>none
 |_,_=>none
def Zt {ρ:Type} (T:Ty) (n:Nat) (x y:Cl) (K:Cl->Ef->Option ρ):Option ρ:=
 match x,y with
 |⟨.sl e cs,l,.prt t _ _ l0 none⟩,⟨.sl e' cs',m,ty⟩=>
  match T.agg,T.shs with
  |false,[.sl e0 c0]=>if h:cs'=cs then if c0=cs then if e0=e then
   chk (decide (List.length (α:=dens cs) l+List.length (α:=dens cs') m<=4294967296)) (
    match ty with
    | .prt t' _ _ _ (some lo)=>chk (Nat.beq t' t) (chk (Nat.ble (List.length (α:=dens cs) l) lo) (chk (Nat.blt 0 (List.length l0)) (
     K ⟨.sl e cs,(l++(h▸m:List (dens cs)):List (dens cs)),.own n⟩ (.rs [t] [n] []))))
    |ty=>ob (cond (Ab5 cs) (some []) (Ss ⟨.sl e' cs',m,ty⟩)) fun a2=>
     K ⟨.sl e cs,(l++(h▸m:List (dens cs)):List (dens cs)),.own n⟩ (.rs (t::a2) [n] []))
   else none else none else none
  |_,_=>none
 |_,_=>none
def Zu {ρ:Type} (T:Ty) (n:Nat) (x y:Cl) (K:Cl->Ef->Option ρ):Option ρ:=
 match x.tok with
 | .prt _ _ _ _ none=>Zt T n x y K
 |_=>Ade T n x y K
def T9 {ρ:Type} (T U:Ty) (n:Nat) (x y:Cl) (K:Cl->Ef->Option ρ):Option ρ:=
 match T.agg,T.shs,U.agg,U.shs,x,y with
 |false,[.sl e0 [.int .u8]],false,[.str],⟨.sl e [.int .u8],l,tx⟩,⟨.str,s,_⟩=>
  ob (Aw4 tx) fun a1=>chk (!isRow tx) (chk (Nat.beq e e0) (chk (decide (List.length (α:=dens [.int .u8]) l+(s:ByteArray).size<=4294967296)) (chk (Nat.blt 0 (s:ByteArray).size)
   (K ⟨.sl e [.int .u8],(l++L8 s:List (dens [.int .u8])),.own n⟩ (.toks a1 [n])))))
 |_,_,_,_,_,_=>none
def B12 (tk:Tok) (e:Nat) (cs:List Sh) (l:List (dens cs)) (lo:Option Nat):Tok:=match tk with
 | .ro=>.ro
 | .pin _=>.ro
 | .nil=>.ro
 | .own t=>.prt t e cs l lo
 |_=>.rd
def elT (tk:Tok) (e:Nat) (cs:List Sh) (l:List (dens cs)) (i:Nat) (d:dens cs) (j:Nat):Tok:=
 match tk with
 | .ro=>.ro
 | .pin _=>.ro
 | .nil=>.ro
 | .own t=>.elt t e cs l i d j
 | .one s _ _=>.nst (s+j)
 |_=>.rd
def B13 (tk:Tok) (n:Nat):Bool:=match tk with
 | .one _ i _=>Nat.beq n i
 |_=>true
def elP (tk:Tok) (e:Nat) (cs:List Sh) (l:List (dens cs)) (i:Nat) (d:dens cs):Option Place:=
 match tk with
 | .own t=>some ⟨t,e,cs,l,i,d,0⟩
 |_=>none
def Agr:Tok->Bool
 | .ro=>true
 | .pin _=>true
 | .nil=>true
 |_=>false
def Place.add (p:Place) (n:Nat):Place:={p with off:=p.off+n}
def Ah4 {ρ:Type} (T:Ty) (x:Cl) (lo hi:Option Int) (K:Cl->Option ρ):Option ρ:=
 match T.agg,T.shs,x with
 |false,[.sl _ c0],⟨.sl e cs,l,tk⟩=>
  let n:Nat:=List.length (α:=dens cs) l
  let h:Int:=hi.getD n
  let o:Int:=lo.getD 0
  chk (Nat.beq c0.length cs.length) (chk (decide (0<=o)) (chk (decide (o<=h)) (chk (decide (h<=n)) (K ⟨.sl e cs,((l:List (dens cs)).take h.toNat).drop o.toNat,B12 tk e cs l (lo.map Int.toNat)⟩))))
 |_,_,_=>none
def Apt (ty:Tys) (st:St) (t:Nat):Option Operand->Option (Option Int)
 |none=>some none
 |some x=>ob (evI ty st t x) fun n=>some (some n)
def Oe:List (Bool×List Cl)->PV
 |[(a,xs)]=>.v a xs
 |l=>.tup l
def Bej (l:List RV):List (Bool×List Cl):=l.map fun r=>(r.1,r.2.map fun s=>⟨s.sh,s.val,Jq s.sh .rd⟩)
def Bje (t:Nat) (l:List RV):List (Bool×List Cl):=l.map fun r=>(r.1,r.2.map fun s=>⟨s.sh,s.val,Jq s.sh (.grd t)⟩)
def Bb7:List Nat->List RV->Bool
 |_,[]=>true
 |ms,x::xs=>cond (Nat.beq (ms.headD 0) 0) (x.2.all fun s=> !Ep s.sh) true && Bb7 ms.tail xs
def Ns (t:Nat):List Cl->Bool
 |[]=>true
 |⟨.sl _ _,_,.elt u _ _ _ _ _ _⟩::r=>cond (Nat.beq u t) (Ns t r) false
 |⟨.sl _ _,_,_⟩::_=>false
 |_::r=>Ns t r
inductive Kind where
 |plain
 |ret
 |view
 |box (ms:List Nat) (pinned own:Bool)
 |lend (ms:List Nat)
 |vgive (ms:List Nat)
structure Cfg where
 ty:Tys
 ctr:Ctr
 kind:Nat->Kind
 int:Nat
 bool:Nat

def Qy {ρ:Type} (g:Cfg) (st:St) (o:Oper) (k:PV->Ef->Option ρ):Option ρ:=
 match o.op with
 | .move x| .assign x=>ob (evO g.ty st o.type x) fun p=>k p .none
 | .pick c a b=>ob (evB g.ty st g.bool c) fun t=>brf t fun t=>ob (evO g.ty st o.type (if t then a else b)) fun p=>k p .none
 | .alloc t=>ob (g.ty t) fun T=>ob o.dst fun d=>k (.box d 0) (.newBox (A2w T.shs))
 | .box t x=>ob (evO g.ty st t x) fun p=>match p with
  | .v _ xs=>ob o.dst fun d=>k (.box d 0) (.newBox xs)
  |_=>none
 | .load t x=>ob (g.ty t) fun T=>ob (evO g.ty st t x) fun p=>
  ob (match p with
    | .box b off=>ob (st.bx b) fun cs=>some ((cs.drop off).take T.shs.length)
    | .el _ _ xs=>some (xs.take T.shs.length)
    |_=>none) fun xs=>
  chk (Nat.beq xs.length T.shs.length) (k (.v T.agg xs) .none)
 | .store t x y=>ob (g.ty t) fun T=>ob (evO g.ty st t x) fun p=>ob (evO g.ty st t y) fun q=>
  match p,q with
  | .box b off,.v _ xs=>chk (Nat.beq xs.length T.shs.length) (k .any (.setBox b off xs))
  | .el (some p) _ _,.v _ xs=>chk (Nat.beq xs.length T.shs.length && Nat.ble (p.off+xs.length) p.cs.length) (ob (Ma p.cs p.d p.off xs) fun d'=>match T7 xs with
   |some a=>k .any (.rs a [] [(p.t,⟨.sl p.e p.cs,p.l.set p.i d'⟩)])
   |none=>chk (Ns p.t xs) (k .any (.fz p.t ⟨.sl p.e p.cs,p.l.set p.i d'⟩)))
  |_,_=>none
 | .fieldAddr t x f=>ob (g.ty t) fun T=>ob T.offs[f]? fun p=>ob (evO g.ty st t x) fun q=>
  match q with
  | .box b off=>k (.box b (off+p.1)) .none
  | .el q ro xs=>k (.el (match q with|some q=>some (q.add p.1)|none=>none) ro (xs.drop p.1)) .none
  |_=>none
 | .indexAddr t x i=>ob (ev1 g.ty st t x) fun c=>ob (evI g.ty st g.int i) fun n=>
  match c with
  |⟨.sl e cs,l,tk⟩=>ob (g.ty t) fun T=>match T.agg,T.shs with
   |false,[.sl _ c0]=>chk (Nat.beq c0.length cs.length) (chk (B13 tk n.toNat) (ob (idx (l:List (dens cs)) n) fun d=>k (.el (elP tk e cs l n.toNat d) (Agr tk) (Bmf (elT tk e cs l n.toNat d) 0 cs d)) .none))
   |_,_=>none
  |_=>none
 | .field t x f=>ob (g.ty t) fun T=>ob T.offs[f]? fun p=>ob T.fty[f]? fun u=>ob (g.ty u) fun U=>ob (evO g.ty st t x) fun q=>
  match q with
  | .v true xs=>chk (Nat.beq ((xs.drop p.1).take U.shs.length).length U.shs.length) (k (.v U.agg ((xs.drop p.1).take U.shs.length)) .none)
  |_=>none
 | .nilCheck x=>ob (evO g.ty st 0 x) fun p=>match p with
  | .box b off=>k (.box b off) .none
  |_=>none
 | .binOp op t x y u=>ob (g.ty t) fun T=>ob (evO g.ty st t x) fun p=>ob (evO g.ty st u y) fun q=>Bei T op p q fun r=>k (.v false [r]) .none
 | .unOp op t x=>ob (evO g.ty st t x) fun p=>ob (pun op p) fun r=>k r .none
 | .convert s d x=>ob (g.ty s) fun S=>ob (g.ty d) fun T=>ob (ev1 g.ty st s x) fun c=>
  match S.agg,S.shs,T.agg,T.shs,c with
  |_,_,false,[.int j],⟨.int _,n,_⟩=>k (.v false [⟨.int j,j.wrap n,.nil⟩]) .none
  |false,[.sl _ [.int .u8]],false,[.str],⟨.sl _ [.int .u8],l,_⟩=>k (.v false [⟨.str,H8 l,.nil⟩]) .none
  |false,[.str],false,[.sl e [.int .u8]],⟨.str,s,_⟩=>chk (decide ((s:ByteArray).size<=4294967296)) (k (.v false [⟨.sl e [.int .u8],L8 s,.rd⟩]) .none)
  |false,[.sl _ [.int .u8]],false,[.sl _ [.int .u8]],⟨.sl e [.int .u8],l,.own t⟩=>chk (Nat.beq s d) (chk (Nat.blt 0 (List.length (α:=dens [.int .u8]) l)) (k (.v false [⟨.sl e [.int .u8],l,.rd⟩]) (.toks [t] [])))
  |_,_,_,_,_=>none
 | .build t ps=>ob (g.ty t) fun T=>chk (T.agg && Nat.blt 0 T.offs.length) (ob (Pp T g.ty st (A2w T.shs) ps.toList) fun cs=>k (.v true cs) .none)
 | .buildSlice t n ps=>ob (g.ty t) fun T=>match T.agg,T.shs with
  |false,[.sl e cs]=>cond (Lj st ps.toList)
    (ob (Vk cs st 0 ps.toList) fun p=>chk (Nat.beq ps.size n && Nat.ble n 4096)
     (ob o.dst fun n=>k (.v false [⟨.sl e cs,p.1,.own (64*n)⟩]) (.toks p.2 [64*n])))
    (ob (Pq cs st 0 ps.toList) fun p=>chk (Nat.beq ps.size n && Nat.ble n 4096)
     (ob o.dst fun n=>k (.v false [⟨.sl e cs,p,.row (64*n)⟩]) (.toks [] [64*n])))
  |_,_=>none
 | .makeSlice t n c=>ob (g.ty t) fun T=>ob (evI g.ty st g.int n) fun l=>ob (evI g.ty st g.int c) fun m=>
  match T.agg,T.shs with
  |false,[.sl e cs]=>chk (decide (0<=l)) (chk (decide (l<=4294967296)) (chk (decide (m=l))
    (ob o.dst fun n=>k (.v false [⟨.sl e cs,List.replicate l.toNat (Ami cs),.own (64*n)⟩]) (.toks [] [64*n]))))
  |_,_=>none
 | .slice t x lo hi none=>ob (g.ty t) fun T=>ob (ev1 g.ty st t x) fun c=>ob (Apt g.ty st g.int lo) fun a=>ob (Apt g.ty st g.int hi) fun b=>
  Ah4 T c a b fun r=>k (.v false [r]) .none
 | .extract x i=>ob (evO g.ty st 0 x) fun p=>match p with
  | .tup l=>ob l[i]? fun q=>k (.v q.1 q.2) .none
  |_=>none
 | .call {callee:=.builtin .len,args,argTypes}=>match args.toList,argTypes.toList with
  |[x],[t]=>ob (g.ty t) fun T=>ob (ev1 g.ty st t x) fun c=>
   match T.agg,T.shs,c with
   |false,[.sl _ _],⟨.sl _ cs,l,_⟩=>k (.v false [⟨.int .i64,(List.length (α:=dens cs) l:Nat),.nil⟩]) .none
   |false,[.str],⟨.str,s,_⟩=>chk (decide ((s:ByteArray).size<=4294967296)) (k (.v false [⟨.int .i64,((s:ByteArray).size:Nat),.nil⟩]) .none)
   |_,_,_=>none
  |_,_=>none
 | .call {callee:=.builtin .append,args,argTypes}=>match args.toList,argTypes.toList with
  |[x,y],[t,u]=>cond (Nat.beq t u) (ob (g.ty t) fun T=>ob (ev1 g.ty st t x) fun c=>ob (ev1 g.ty st t y) fun d=>ob o.dst fun n=>Zu T (64*n) c d fun r ef=>
   k (.v false [r]) ef)
   (ob (g.ty t) fun T=>ob (g.ty u) fun U=>ob (ev1 g.ty st t x) fun c=>ob (ev1 g.ty st u y) fun d=>ob o.dst fun n=>T9 T U (64*n) c d fun r ef=>k (.v false [r]) ef)
  |_,_=>none
 | .call {callee:=.builtin .min,args,argTypes}=>match args.toList with
  |[x,y]=>ob (evI g.ty st g.int x) fun a=>ob (evI g.ty st g.int y) fun b=>k (.v false [⟨.int .i64,if b<a then b else a,.nil⟩]) .none
  |_=>none
 | .call {callee:=.builtin .max,args,argTypes}=>match args.toList with
  |[x,y]=>ob (evI g.ty st g.int x) fun a=>ob (evI g.ty st g.int y) fun b=>k (.v false [⟨.int .i64,if a<b then b else a,.nil⟩]) .none
  |_=>none
 | .call {callee:=.value (.func f),args:=as,argTypes}=>match g.kind f with
  | .plain=>ob (args g.ty st as.toList argTypes.toList) fun vs=>(g.ctr f vs).run fun res=>
   ob o.dst fun n=>let x:=Dg (64*n) res.1
   k (Oe x.1) (.toks [] (List.range' (64*n) (x.2-64*n)))
  | .ret=>ob (args g.ty st as.toList argTypes.toList) fun vs=>(g.ctr f vs).run fun res=>ob o.dst fun n=>match res.1 with
   |[(_,ss)]=>k (.box n 0) (.newBox (ss.map fun s=>⟨s.sh,s.val,Jq s.sh .rd⟩))
   |_=>none
  | .view=>ob (args g.ty st as.toList argTypes.toList) fun vs=>(g.ctr f vs).run fun res=>k (Oe (Bej res.1)) .none
  | .box ms pinned own=>ob (N8 g.ty st as.toList argTypes.toList) fun ps=>ob (D3 st ms ps) fun vs=>ob (Hu ms ps) fun b=>ob (st.bx b) fun cs=>(g.ctr f vs).run fun res=>
   match res.2 with
   |[(_,new)]=>ob (merge pinned (own && Bb6 cs ps) cs new) fun cs'=>ob o.dst fun n=>let x:=Dg (64*n) res.1
    k (cond own (Oe x.1) (Oe (Bej res.1))) (.bx b cs' (cond own (List.range' (64*n) (x.2-64*n)) []))
   |_=>none
  | .lend ms=>ob (N8 g.ty st as.toList argTypes.toList) fun ps=>ob (D3 st ms ps) fun vs=>ob (Ab6 ms ps) fun rd=>
   match Nr ms ps with
   |some ⟨s,v,.elt t e cs l i d j⟩=>(g.ctr f vs).run fun res=>
    match res.1,res.2 with
    |[(false,[⟨.int .i64,r⟩])],[(false,[y])]=>chk (!(rd.map fun u=>u.1).contains t) (ob (Ma cs d j [⟨y.sh,y.val,.nil⟩]) fun d'=>k (.v false [⟨.int .i64,r,.nil⟩]) (.rs [] [] ((t,⟨.sl e cs,l.set i d'⟩)::rd)))
    |_,_=>none
   |_=>ob (L4 ms ps) fun gv=>(g.ctr f vs).run fun res=>ob (Pr ms ps res.2) fun us=>chk (T8 gv.2 && (gv.2.all fun t=>gv.1.contains t || (us.map fun u=>u.1).contains t) && rd.all fun u=> !gv.2.contains u.1) (ob o.dst fun n=>let x:=Dg (64*n) res.1
    k (Oe x.1) (.rs gv.1 (List.range' (64*n) (x.2-64*n)) (us++rd)))
  | .vgive ms=>ob (N8 g.ty st as.toList argTypes.toList) fun ps=>ob (D3 st ms ps) fun vs=>ob (L4 ms ps) fun gv=>chk (Bb7 ms vs && T8 gv.2) ((g.ctr f vs).run fun res=>ob o.dst fun n=>k (Oe (Bje (64*n) res.1)) (.toks gv.2 (List.range' (64*n) 1)))
 |_=>none

def Bek:PV->Bool
 | .tup []=>true
 |_=>false
theorem Bqf {p:PV} (h:Bek p=true):p= .tup []:=by
 unfold Bek at h
 split at h
 .rfl
 .cases h
def A8e {ρ:Type} (g:Cfg) (all:List Oper) (np nt:Nat):List Oper->St->(St->Option ρ)->Option ρ
 |[],st,k=>k st
 |o::r,st,k=>
  chk (match o.dst with|some d=>Nat.ble np d && Nat.blt d nt|none=>true) (
  match o.guard with
  |none=>Qy g st o fun p ef=>ob (ef.app o.dst st) fun st'=>A8e g all np nt r (st'.put o.dst p) k
  |some (j,want)=>ob (all[j]?) fun oj=>ob oj.dst fun d=>cond (Bek (st.get d)) (A8e g all np nt r (st.put o.dst (.tup [])) k) <| match st.get d with
   | .v false [⟨.bool,b,.nil⟩]=>brf b fun b=>
    let st1:=st.set d (.v false [⟨.bool,b,.nil⟩])
    if b=want then Qy g st1 o fun p ef=>ob (ef.app o.dst st1) fun st'=>A8e g all np nt r (st'.put o.dst p) k
    else A8e g all np nt r (st1.put o.dst (.tup [])) k
   |_=>none)

def Ii:Operand->List Nat
 | .tmp t=>[t]
 |_=>[]
def Dn (l:List Operand):List Nat:=l.flatMap Ii
def Vl (o:Oper):List Nat:=Dn o.op.operands.toList
def Ags (g:Cfg) (st:St) (o:Oper):List Nat:=
 match o.op with
 | .load t x=>match evO g.ty st t x with
  |some (.box b _)=>[b]
  |_=>[]
 | .call {callee:=.value (.func _),args:=as,argTypes}=>match N8 g.ty st as.toList argTypes.toList with
  |some ps=>ps.flatMap fun p=>match p with| .box b _=>[b]|_=>[]
  |none=>[]
 |_=>[]
structure Stp where
 on:Bool
 pv:PV
 ef:Ef
 rb:List Nat
def Amj {ρ:Type} (g:Cfg) (all:List Oper) (np nt:Nat):List Oper->St->List Stp->(List Stp->St->Option ρ)->Option ρ
 |[],st,tr,k=>k tr.reverse st
 |o::r,st,tr,k=>
  chk (match o.dst with|some d=>Nat.ble np d && Nat.blt d nt|none=>true) (
  match o.guard with
  |none=>Qy g st o fun p ef=>ob (ef.app o.dst st) fun st'=>Amj g all np nt r (st'.put o.dst p) (⟨true,p,ef,Ags g st o⟩::tr) k
  |some (j,want)=>ob (all[j]?) fun oj=>ob oj.dst fun d=>cond (Bek (st.get d)) (Amj g all np nt r (st.put o.dst (.tup [])) (⟨false,.tup [],.none,[]⟩::tr) k) <| match st.get d with
   | .v false [⟨.bool,b,.nil⟩]=>brf b fun b=>
    let st1:=st.set d (.v false [⟨.bool,b,.nil⟩])
    if b=want then Qy g st1 o fun p ef=>ob (ef.app o.dst st1) fun st'=>Amj g all np nt r (st'.put o.dst p) (⟨true,p,ef,Ags g st1 o⟩::tr) k
    else Amj g all np nt r (st1.put o.dst (.tup [])) (⟨false,.tup [],.none,[]⟩::tr) k
   |_=>none)
def Dr (d:Option Nat):Ef->List (Nat×Nat)
 | .none=>[]
 | .newBox _=>d.toList.map fun k=>(1,k)
 | .setBox b _ _=>[(1,b)]
 | .toks a m=>(a++m).map fun t=>(2,t)
 | .bx b _ m=>(1,b)::m.map fun t=>(2,t)
 | .rs _ _ _=>[(9,0)]
 | .fz _ _=>[(9,0)]
def wrL (o:Oper) (s:Stp):List (Nat×Nat):=(o.dst.toList.map fun d=>(0,d))++Dr o.dst s.ef
def B14 (all:List Oper) (o:Oper):List (Nat×Nat):=
 match o.guard with
 |some (j,_)=>(match all[j]? with|some oj=>oj.dst.toList.map fun d=>(0,d)|none=>[])
 |none=>[]
def rdL (all:List Oper) (o:Oper) (s:Stp):List (Nat×Nat):=(9,0)::((Vl o).map fun i=>(0,i))++B14 all o++(s.rb.map fun b=>(1,b))
def Bjf (a b:List (Nat×Nat)):Bool:=a.any fun x=>b.any fun y=>Nat.beq x.1 y.1 && Nat.beq x.2 y.2
def Bel:List Nat->List Nat->List Nat
 |[],acc=>acc
 |a::r,acc=>cond (acc.any fun y=>Nat.beq a y) (Bel r acc) (Bel r (a::acc))
def Bmg {ρ:Type}:List Nat->List Nat->(List Nat->ρ)->ρ
 |[],acc,k=>k acc
 |a::r,acc,k=>cond (acc.any fun y=>Nat.beq a y) (Bmg r acc k) (Bmg r (a::acc) k)
def Btj:List Oper->List (List Nat)->List (List Nat)
 |[],acc=>acc
 |o::r,acc=>Bmg ((o.after.toList.filter fun e=>Region.binds .any e).flatMap fun e=>e.on::acc.getD e.on []) [] fun q=>Btj r (acc++[q])
def Bb8 (all:List Oper) (an:List Nat) (oj:Oper) (sj:Stp):Nat->List Oper->List Stp->Bool
 |i,o::os,s::ss=>(an.contains i || !(Bjf (wrL o s) (wrL oj sj++rdL all oj sj) || Bjf (rdL all o s) (wrL oj sj))) && Bb8 all an oj sj (i+1) os ss
 |_,_,_=>true
def A3y (all:List Oper) (tr:List Stp) (an:List (List Nat)):Nat->List Oper->List Stp->Bool
 |j,o::os,s::ss=>(o.after.toList.all fun e=> !Region.binds .any e || Nat.blt e.on j) && Bb8 all (an.getD j []) o s 0 (all.take j) (tr.take j) && A3y all tr an (j+1) os ss
 |_,_,_=>true
def Btk (all:List Oper) (tr:List Stp):Bool:=A3y all tr (Btj all []) 0 all tr

inductive Ex where
 |normal
 |exit (id:Nat)
 |ret
def Ex.out:Ex->Exit
 | .normal=>.normal
 | .exit i=>.exit i
 | .ret=>.ret
def Q2:Code->Nat
 | .region i _ _=>i
 | .seq a b=>min (Q2 a) (Q2 b)
 | .cond _ a b=>min (Q2 a) (Q2 b)
 | .block _ a=>Q2 a
 | .loop a=>Q2 a
 | .scope a=>Q2 a
 |_=>1000000
abbrev Gt:=Nat->St->Tree (Ex×St)

def pex {ρ:Type} (g:Cfg) (np nt:Nat) (Λ:Gt):Code->St->(Ex->St->Option ρ)->Option ρ
 | .skip,st,k=>k .normal st
 | .region _ ops false,st,k=>A8e g ops.toList np nt ops.toList st (k .normal)
 | .region _ ops true,st,k=>Amj g ops.toList np nt ops.toList st [] fun tr st'=>chk (Btk ops.toList tr) (k .normal st')
 | .seq a b,st,k=>pex g np nt Λ a st fun e st'=>match e with
  | .normal=>pex g np nt Λ b st' k
  |e=>k e st'
 | .cond c a b,st,k=>match c with
  | .tmp d=>match st.get d with
   | .v false [⟨.bool,t,.nil⟩]=>brf t fun t=>
    let st1:=st.set d (.v false [⟨.bool,t,.nil⟩])
    if t then pex g np nt Λ a st1 k else pex g np nt Λ b st1 k
   |_=>none
  |_=>none
 | .block i a,st,k=>pex g np nt Λ a st fun e st'=>match e with
  | .exit j=>if j=i then k .normal st' else k (.exit j) st'
  |e=>k e st'
 | .loop a,st,k=>(Λ (Q2 a) st).run fun r=>k r.1 r.2
 | .exit i,st,k=>k (.exit i) st
 | .ret,st,k=>k .ret st
 |_,_,_=>none

def Jr (g:Cfg) (st:St):List ResultVar->Option (List (Bool×List Cl))
 |[]=>some []
 | .tmp t::r=>match st.get t with
  | .v a xs=>ob (Jr g st r) fun l=>some ((a,xs)::l)
  |_=>none
 | .cell t ty::r=>ob (g.ty ty) fun T=>match st.get t with
  | .box b off=>ob (st.bx b) fun cs=>let xs:=(cs.drop off).take T.shs.length
   chk (Nat.beq xs.length T.shs.length) (ob (Jr g st r) fun l=>some ((T.agg,xs)::l))
  |_=>none
def Dh:Nat->Nat->List Nat->List RV->List (Nat×PV)×List (Nat×List Cl)×List Nat
 |_,_,_,[]=>([],[],[])
 |i,n,ms,(a,xs)::r=>
  match ms.headD 0 with
  |0=>let p:=Dh (i+1) n ms.tail r
   ((i,.v a (xs.map fun s=>⟨s.sh,s.val,A8d s.sh⟩))::p.1,p.2)
  |3=>let p:=Dh (i+1) n ms.tail r
   ((i,.box i 0)::p.1,(i,xs.zipIdx.map fun(s,j)=>⟨s.sh,s.val,Jq s.sh (.pin j)⟩)::p.2.1,p.2.2)
  |_=>let x:=Dl n xs;let p:=Dh (i+1) x.2 ms.tail r
   ((i,.v a x.1)::p.1,p.2.1,List.range' n (x.2-n)++p.2.2)
def tok0:Nat:=64000000
def Gp (ms:List Nat) (as:List RV):St:=
 let p:=Dh 0 tok0 ms as
 {env:=p.1,boxes:=p.2.1,live:=p.2.2.reverse,used:=p.2.2.reverse}
def Btl (x:Cl):Cl:=match x.tok with
 | .elt t _ _ _ _ _ _=>⟨x.sh,x.val,.nst t⟩
 |_=>x
def Ps:List (Bool×List Cl)->Option (List Nat)
 |[]=>some []
 |x::r=>ob (T7 (x.2.map Btl)) fun l=>ob (Ps r) fun m=>some (l++m)
def Bem (st:St):Nat->List Nat->Option (List (Bool×List Cl))
 |_,[]=>some []
 |i,m::ms=>ob (Bem st (i+1) ms) fun r=>cond (Nat.beq m 1) (match st.get i with| .v a xs=>some ((a,xs)::r)|_=>none) (some r)
def Rp:Nat->List Cl->Bool
 |_,[]=>true
 |i,⟨.sl _ _,_,.pin j⟩::r=>Nat.beq i j && Rp (i+1) r
 |_,⟨.sl _ _,_,_⟩::_=>false
 |i,_::r=>Rp (i+1) r
def Vm:List Cl->Bool
 |[]=>true
 |⟨.sl _ _,_,tk⟩::r=>Agr tk && Vm r
 |_::r=>Vm r
def A2x (pinned own:Bool) (st:St):Nat->List Nat->Option (List RV)
 |_,[]=>some []
 |i,m::ms=>cond (Nat.beq m 3) (match st.get i with
  | .box j 0=>chk (Nat.beq i j) (ob (st.bx i) fun cs=>chk (cond pinned (Rp 0 cs) (cond own (Vm cs) true)) (some [strip (true,cs)]))
  |_=>none) (A2x pinned own st (i+1) ms)
def Ar2:List Nat->Bool
 |[]=>false
 |m::r=>cond (Nat.beq m 3) (r.all fun m=>Nat.beq m 0) (cond (Nat.beq m 0) (Ar2 r) false)
def H2 (g:Cfg) (np:Nat) (Λ:Gt) (fn:Func) (kd:Kind) (as:List RV):Option (List RV×List RV):=
 match kd with
 | .plain=>chk (Nat.ble as.length fn.ntmps) (ob fn.body fun c=>pex g np fn.ntmps Λ c (Gp [] as) fun e st=>match e with
  | .exit _=>none
  |_=>ob (Jr g st fn.results.toList) fun l=>ob (Ps l) fun a=>ob (eat st.live a) fun _=>some (l.map strip,[]))
 | .ret=>chk (Nat.ble as.length fn.ntmps) (ob fn.body fun c=>pex g np fn.ntmps Λ c (Gp [] as) fun e st=>match e with
  | .exit _=>none
  |_=>match fn.results.toList with
   |[.tmp t]=>match st.get t with
    | .box b 0=>ob (st.bx b) fun cs=>chk (Vm cs) (some ([strip (true,cs)],[]))
    |_=>none
   |_=>none)
 | .view=>chk (Nat.ble as.length fn.ntmps) (ob fn.body fun c=>pex g np fn.ntmps Λ c (Gp [] as) fun e st=>match e with
  | .exit _=>none
  |_=>ob (Jr g st fn.results.toList) fun l=>some (l.map strip,[]))
 | .box ms pinned own=>chk (Ar2 ms && Nat.ble as.length fn.ntmps && Nat.ble ms.length np && Nat.ble ms.length as.length) (ob fn.body fun c=>pex g np fn.ntmps Λ c (Gp ms as) fun e st=>match e with
  | .exit _=>none
  |_=>ob (Jr g st fn.results.toList) fun l=>ob (cond own (ob (Ps l) fun a=>eat st.live a) (some [])) fun _=>ob (A2x pinned own st 0 ms) fun o=>some (l.map strip,o))
 | .lend ms=>chk ((ms.all fun m=>Nat.ble m 2) && Nat.ble as.length fn.ntmps && Nat.ble ms.length np && Nat.ble ms.length as.length) (ob fn.body fun c=>pex g np fn.ntmps Λ c (Gp ms as) fun e st=>match e with
  | .exit _=>none
  |_=>ob (Jr g st fn.results.toList) fun l=>ob (Bem st 0 ms) fun m=>ob (Ps (l++m)) fun a=>ob (eat st.live a) fun _=>some (l.map strip,m.map strip))
 | .vgive _=>chk (Nat.ble as.length fn.ntmps) (ob fn.body fun c=>pex g np fn.ntmps Λ c (Gp [] as) fun e st=>match e with
  | .exit _=>none
  |_=>ob (Jr g st fn.results.toList) fun l=>some (l.map strip,[]))
end
end
section

structure Cx where
 w0:World
 f0:Ac
 G0:A9
 P:Nat->Value
 pin:List Value
 tab:TOk w0 f0
structure Gh where
 G:A9
 B:Nat->Nat
 F:Nat->Ac
 V:Nat->Value
 S:Nat->Nat
def Fu (c:Cx) (b:Nat):Prop:=c.w0.heap.size<=b\/(c.f0 b).isSome=true
theorem Moved.trans {f:Ac} {a b c:World} (h:Moved f a b) (k:Moved f b c):Moved f a c:=
 ⟨k.os.trans h.os,k.tape.trans h.tape,k.output.trans h.output,Nat.le_trans h.size k.size,fun i hi hf=>by rw[k.block i (Nat.lt_of_lt_of_le hi h.size) hf,h.block i hi hf]⟩
def Ua (G:A9) (sz:Nat) (v:Value):Prop:=∀b n cap,v= .slice (some ⟨b,0,none⟩) n cap->n<cap-> ∀o,n*sz<=o->G b o=none
theorem Bth.room {G:A9} {sz:Nat} {v:Value} (h:Bth G sz v):Ua G sz v:=fun b n cap e _ o ho=>h b n cap e o ho
def D4:(cs:List Sh)->dens cs->Nat->Option Sg
 |[],_,_=>none
 |s::_,d,0=>some ⟨s,d.1⟩
 |_::r,d,n+1=>D4 r d.2 n
def Btm (f:Ac) (s:Sh) (v:Value):Prop:=∃e cs n cells,s= .sl e cs/\Dw e cs.length f v n cells
def Ben (g:Gh) (t e:Nat) (cs:List Sh) (l:List (dens cs)) (i:Nat) (d:dens cs):Prop:=
 Bf (g.F t) (.sl e cs) l (g.V t)/\Ua g.G cs.length (g.V t)/\cs.length=g.S t/\l[i]? =some d
def Ak1 (G:A9) (F:Ac) (cs:List Sh) (l:List (dens cs)) (lo:Nat) (v:Value):Prop:=
 ∃(b:Nat) (h:Nat->Ac) (c:Nat->List Value),
  (∀i d,lo<=i->l[i]? =some d->(∃n cap,v= .slice (some ⟨b,0,none⟩) n cap)/\By (h i) cs d (c i)/\(h i).sub F/\ ∀j u,(c i)[j]? =some u->G b (i*cs.length+j)=some u)/\
  ∀i i',lo<=i->lo<=i'->i<l.length->i'<l.length->i≠i'->(h i).apart (h i')
def Bmh (G:A9) (F:Ac) (s:Sh) (d:s.den) (lo:Nat) (v:Value):Prop:=match s,d with
 | .sl _ cs,l=>Ak1 G F cs l lo v
 |_,_=>False
def Btn (g:Gh) (st:St) (s i:Nat) (sh:Sh) (d:sh.den) (v:Value):Prop:=match sh,d with
 | .sl _ cs,l=>∀(d:dens cs) (j:Nat) (sg:Sg),(l:List (dens cs))[i]? =some d->D4 cs d j=some sg->Ep sg.sh=true->
   (s+j)∈st.used/\((s+j)∈st.live-> ∃b n cap u,v= .slice (some ⟨b,0,none⟩) n cap/\g.G b (i*cs.length+j)=some u/\Bf (g.F (s+j)) sg.sh sg.val u)
 |_,_=>False
def B15 (g:Gh) (t e:Nat) (cs:List Sh) (l:List (dens cs)) (lo:Option Nat) (s:Sh) (d:s.den) (v:Value):Prop:=
 Bf (g.F t) (.sl e cs) l (g.V t)/\Ua g.G cs.length (g.V t)/\cs.length=g.S t/\ ∃H ad n cap,lo.getD 0<=H/\H<=l.length/\
  (⟨s,d⟩:Sg)=⟨.sl e cs,((l.take H).drop (lo.getD 0):List (dens cs))⟩/\g.V t= .slice ad n cap/\v= .slice (if cap=lo.getD 0 then ad else ad.map (·.add (lo.getD 0*cs.length))) (H-lo.getD 0) (cap-lo.getD 0)
def CR (c:Cx) (g:Gh) (st:St) (x:Cl) (v:Value):Prop:=
 RdD g.G x.sh x.val v/\
 match x.tok with
 | .ro=>RdD c.G0 x.sh x.val v
 | .rd=>True
 | .nil=>∀e cs,x.sh= .sl e cs-> ∃a,v= .slice a 0 0
 | .own t=>t∈st.used/\(t∈st.live->Bf (g.F t) x.sh x.val v/\Ua g.G (Kr x.sh) v/\v=g.V t/\Kr x.sh=g.S t/\Ep x.sh=true)
 | .row t=>t∈st.used/\(t∈st.live->Btm (g.F t) x.sh v/\Ua g.G (Kr x.sh) v/\v=g.V t/\Kr x.sh=g.S t/\Ep x.sh=true)
 | .pin j=>RdD c.G0 x.sh x.val v/\v=c.P j
 | .bag t lo=>t∈st.used/\(t∈st.live->Bmh g.G (g.F t) x.sh x.val lo v)
 | .one s i t=>t∈st.used/\(t∈st.live->Bmh g.G (g.F t) x.sh x.val (i+1) v)/\Btn g st s i x.sh x.val v
 | .nst t=>t∈st.used/\(t∈st.live->Bf (g.F t) x.sh x.val v)
 | .grd t=>t∈st.used/\(t∈st.live->RdD (B9 (g.F t)) x.sh x.val v/\g.V t=undef)
 | .prt t e cs l lo=>t∈st.used/\(t∈st.live->B15 g t e cs l lo x.sh x.val v)
 | .elt t e cs l i d j=>t∈st.used/\(t∈st.live->Ben g t e cs l i d/\D4 cs d j=some ⟨x.sh,x.val⟩/\ ∃b n cap,g.V t= .slice (some ⟨b,0,none⟩) n cap/\(g.F t).cell b (i*cs.length+j)=some v)
def CRs (c:Cx) (g:Gh) (st:St):List Cl->List Value->Prop
 |[],[]=>True
 |x::xs,v::vs=>CR c g st x v/\CRs c g st xs vs
 |_,_=>False
def ElR (c:Cx) (g:Gh) (st:St) (ro:Bool):List Cl->Nat->Nat->Prop
 |[],_,_=>True
 |x::xs,b,o=>(∃u,(cond ro c.G0 g.G) b o=some u/\CR c g st x u)/\ElR c g st ro xs b (o+1)
def A3z (g:Gh) (st:St) (p:Option Place) (b o:Nat):Prop:=
 match p with
 |none=>True
 |some p=>p.t∈st.used/\(p.t∈st.live->Ben g p.t p.e p.cs p.l p.i p.d/\ ∃n cap,g.V p.t= .slice (some ⟨b,0,none⟩) n cap/\o=p.i*p.cs.length+p.off)
def VRv (c:Cx) (g:Gh) (st:St) (agg:Bool) (xs:List Cl) (v:Value):Prop:=
 match agg with
 |true=>∃vs:List Value,v= .agg vs.toArray/\CRs c g st xs vs
 |false=>CRs c g st xs [v]
def VRt (c:Cx) (g:Gh) (st:St):List (Bool×List Cl)->List Value->Prop
 |[],[]=>True
 |x::xs,v::vs=>VRv c g st x.1 x.2 v/\VRt c g st xs vs
 |_,_=>False
def VR (c:Cx) (g:Gh) (st:St):PV->Value->Prop
 | .any,_=>True
 | .v a xs,v=>VRv c g st a xs v
 | .box b off,v=>st.has b=true/\v= .pointer (some ⟨g.B b,off,none⟩)
 | .el p ro xs,v=>∃b o,v= .pointer (some ⟨b,o,none⟩)/\ElR c g st ro xs b o/\A3z g st p b o
 | .tup l,v=>∃vs:List Value,v= .tuple vs.toArray/\VRt c g st l vs
structure RM (c:Cx) (g:Gh) (st:St) (w:World):Prop where
 moved:Moved c.f0 c.w0 w
 lies:Ez g.G w
 g0:c.G0.sub g.G
 old: ∀b o v,c.G0 b o=some v->b<c.w0.heap.size/\c.f0 b=none
 box: ∀(k:Nat) (cs:List Cl),st.bx k=some cs-> ∃(vs:List Value) (e:TypeId),w.heap[g.B k]? =some (.cells vs.toArray e (0,0))/\Fu c (g.B k)/\CRs c g st cs vs
 inj: ∀i j,st.has i=true->st.has j=true->g.B i=g.B j->i=j
 boxG: ∀k o,st.has k=true->g.G (g.B k) o=none
 tok: ∀t,t∈st.live->t∈st.used/\Bu (g.F t) w/\ ∀b o,g.F t b=some o->Fu c b
 apart: ∀t u,t∈st.live->u∈st.live->t≠u->(g.F t).apart (g.F u)
 tokBox: ∀t k,t∈st.live->st.has k=true->g.F t (g.B k)=none
 nodup:st.live.Nodup
 new: ∀b o v,g.G b o=some v->c.G0 b o=some v\/Fu c b
theorem RM.tok0 {c:Cx} {g:Gh} {st:St} {w:World} (hM:RM c g st w) {f:Ac} (hf: ∀b o,f b=some o->Fu c b):TOk w f:=fun x hx=>by
 obtain⟨⟨e,d,h1⟩,h2⟩:=c.tab x hx
 have hlt:=(Array.getElem?_eq_some_iff.1 h1).1
 refine⟨⟨e,d,by rw[hM.moved.block x.1 hlt h2];exact h1⟩,?_⟩
 cases ef:f x.1 with
 |none=>rfl
 |some o=>
  rcases hf _ _ ef with q|q
  .omega
  .rw[h2]at q;cases q
structure Ext (g:Gh) (st:St) (g':Gh) (st':St):Prop where
 G:g.G.sub g'.G
 B: ∀b,st.has b=true->g'.B b=g.B b
 nb: ∀b,st.has b=true->st'.has b=true
 nxt: ∀t,t∈st.used->t∈st'.used
 live: ∀t,t∈st'.live->t∈st.used->t∈st.live/\g'.F t=g.F t/\g'.V t=g.V t/\g'.S t=g.S t/\ ∀b o,(g.F t b).isSome=true->g'.G b o=g.G b o
theorem Gd {st:St} {k:Nat} (h:st.has k=true): ∃cs,st.bx k=some cs:=Option.isSome_iff_exists.1 h
theorem Gs {st:St} {k:Nat} {cs:List Cl} (h:st.bx k=some cs):st.has k=true:=by unfold St.has;rw[h];rfl
theorem Ext.refl (g:Gh) (st:St):Ext g st g st:=⟨fun _ _ _ h=>h,fun _ _=>rfl,fun _ h=>h,fun _ h=>h,fun t h _=>⟨h,rfl,rfl,rfl,fun _ _ _=>rfl⟩⟩
theorem Dw.root {e sz:Nat} {f:Ac} {v:Value} {n:Nat} {cells:List Value} (h:Dw e sz f v n cells) {b m cap:Nat} (hv:v= .slice (some ⟨b,0,none⟩) m cap) (hc:m<cap):(f b).isSome=true:=by
 obtain⟨_,⟨⟨a,hE⟩,_⟩|⟨g,cap',cur,hE,hg,_⟩⟩:=h
 .rw[hE]at hv;cases hv;omega
 .rw[hE]at hv;cases hv
  rw[hg];rfl
theorem Bf.root {s:Sh} (hs:Ep s=true) {f:Ac} {d:s.den} {v:Value} (h:Bf f s d v) {b n cap:Nat} (hv:v= .slice (some ⟨b,0,none⟩) n cap) (hc:n<cap):(f b).isSome=true:=by
 cases s with
 |sl e cs=>
  simp only[Bf]at h
  obtain⟨css,r,hs,h1,h2,h3⟩:=h
  have:=h1.root hv hc
  obtain⟨o,ho⟩:=Option.isSome_iff_exists.1 this
  rw[h2.2 r (by simp) _ _ ho];rfl
 |_=>cases hs
theorem Btm.root {s:Sh} {f:Ac} {v:Value} (h:Btm f s v) {b n cap:Nat} (hv:v= .slice (some ⟨b,0,none⟩) n cap) (hc:n<cap):(f b).isSome=true:=by
 obtain⟨e,cs,m,cells,_,h⟩:=h
 exact h.root hv hc
theorem Ua.ext {G G':A9} {sz:Nat} {v:Value} (h:Ua G sz v) {f:Ac} (hr: ∀b n cap,v= .slice (some ⟨b,0,none⟩) n cap->n<cap->(f b).isSome=true) (hG: ∀b o,(f b).isSome=true->G' b o=G b o):Ua G' sz v:=
 fun b n cap hv hc o ho=>by rw[hG b o (hr b n cap hv hc)];exact h b n cap hv hc o ho
theorem Ben.ext {g g':Gh} {st st':St} (h:Ext g st g' st') {t e:Nat} {cs:List Sh} {l:List (dens cs)} {i:Nat} {d:dens cs} (hu:t∈st.used) (ht:t∈st'.live) (hx:Ben g t e cs l i d):Ben g' t e cs l i d:=by
 obtain⟨_,h4,h5,h6,h7⟩:=h.live t ht hu
 obtain⟨q1,q2,q3,q4⟩:=hx
 refine⟨by rw[h4,h5];exact q1,?_,by rw[h6];exact q3,q4⟩
 rw[h5]
 exact q2.ext (fun b n cap hv hc=>Bf.root (s:=.sl e cs) rfl q1 hv hc) h7
theorem Bmh.ext {G G':A9} (hG:G.sub G') {F:Ac} {s:Sh} {d:s.den} {lo:Nat} {v:Value} (h:Bmh G F s d lo v):Bmh G' F s d lo v:=by
 cases s with
 |sl e cs=>
  obtain⟨b,h,c,h1,h2⟩:=h
  refine⟨b,h,c,fun i d hi hd=>?_,h2⟩
  obtain⟨q1,q2,q3,q4⟩:=h1 i d hi hd
  exact⟨q1,q2,q3,fun j u hu=>hG _ _ _ (q4 j u hu)⟩
 |_=>exact h
theorem Btn.ext {g g':Gh} {st st':St} (h:Ext g st g' st') {s i:Nat} {sh:Sh} {d:sh.den} {v:Value} (hx:Btn g st s i sh d v):Btn g' st' s i sh d v:=by
 cases sh with
 |sl e cs=>
  intro d j sg h1 h2 h3
  obtain⟨q1,q2⟩:=hx d j sg h1 h2 h3
  refine⟨h.nxt _ q1,fun hl=>?_⟩
  obtain⟨p1,p2,_,_,_⟩:=h.live _ hl q1
  obtain⟨b,n,cap,u,r1,r2,r3⟩:=q2 p1
  exact⟨b,n,cap,u,r1,h.G _ _ _ r2,by rw[p2];exact r3⟩
 |_=>exact hx
theorem CR.ext {c:Cx} {g g':Gh} {st st':St} (h:Ext g st g' st') {x:Cl} {v:Value} (hx:CR c g st x v):CR c g' st' x v:=by
 obtain⟨h1,h2⟩:=hx
 refine⟨RdD.sub h.G _ _ _ h1,?_⟩
 obtain⟨sh,val,tok⟩:=x
 cases tok with
 |ro=>exact h2
 |rd=>trivial
 |nil=>exact h2
 |pin j=>exact h2
 |own t=>
  simp only at h2 ⊢
  refine⟨h.nxt _ h2.1,fun ht=>?_⟩
  obtain⟨h3,h4,h5,h6,h7⟩:=h.live t ht h2.1
  obtain⟨q1,q2,q3,q4,q5⟩:=h2.2 h3
  exact⟨by rw[h4];exact q1,q2.ext (fun b n cap hv hc=>Bf.root q5 q1 hv hc) h7,by rw[h5];exact q3,by rw[h6];exact q4,q5⟩
 |row t=>
  simp only at h2 ⊢
  refine⟨h.nxt _ h2.1,fun ht=>?_⟩
  obtain⟨h3,h4,h5,h6,h7⟩:=h.live t ht h2.1
  obtain⟨q1,q2,q3,q4,q5⟩:=h2.2 h3
  exact⟨by rw[h4];exact q1,q2.ext (fun b n cap hv hc=>Btm.root q1 hv hc) h7,by rw[h5];exact q3,by rw[h6];exact q4,q5⟩
 |elt t e cs l i d j=>
  simp only at h2 ⊢
  refine⟨h.nxt _ h2.1,fun ht=>?_⟩
  obtain⟨h3,h4,h5,h6,h7⟩:=h.live t ht h2.1
  obtain⟨q1,q2,q3⟩:=h2.2 h3
  exact⟨q1.ext h h2.1 ht,q2,by rw[h4,h5];exact q3⟩
 |bag t lo=>
  simp only at h2 ⊢
  refine⟨h.nxt _ h2.1,fun ht=>?_⟩
  obtain⟨h3,h4,_⟩:=h.live t ht h2.1
  rw[h4];exact(h2.2 h3).ext h.G
 |one s i t=>
  simp only at h2 ⊢
  refine⟨h.nxt _ h2.1,fun ht=>?_,h2.2.2.ext h⟩
  obtain⟨h3,h4,_⟩:=h.live t ht h2.1
  rw[h4];exact(h2.2.1 h3).ext h.G
 |nst t=>
  simp only at h2 ⊢
  refine⟨h.nxt _ h2.1,fun ht=>?_⟩
  obtain⟨h3,h4,_⟩:=h.live t ht h2.1
  rw[h4];exact h2.2 h3
 |grd t=>
  simp only at h2 ⊢
  refine⟨h.nxt _ h2.1,fun ht=>?_⟩
  obtain⟨h3,h4,h5,_⟩:=h.live t ht h2.1
  rw[h4,h5];exact h2.2 h3
 |prt t e cs l lo=>
  simp only at h2 ⊢
  refine⟨h.nxt _ h2.1,fun ht=>?_⟩
  obtain⟨h3,h4,h5,h6,h7⟩:=h.live t ht h2.1
  obtain⟨q1,q2,q3,q4⟩:=h2.2 h3
  unfold B15
  rw[h4,h5,h6]
  exact⟨q1,q2.ext (fun b n cap hv hc=>Bf.root (s:=.sl e cs) rfl q1 hv hc) h7,q3,q4⟩
theorem CRs.ext {c:Cx} {g g':Gh} {st st':St} (h:Ext g st g' st'): ∀ {xs:List Cl} {vs:List Value},CRs c g st xs vs->CRs c g' st' xs vs
 |[],[],_=>trivial
 |x::xs,v::vs,hx=>⟨hx.1.ext h,hx.2.ext h⟩
 |[],_::_,hx=>hx.elim
 |_::_,[],hx=>hx.elim
theorem ElR.ext {c:Cx} {g g':Gh} {st st':St} (h:Ext g st g' st') {ro:Bool}: ∀ {xs:List Cl} {b o:Nat},ElR c g st ro xs b o->ElR c g' st' ro xs b o
 |[],_,_,_=>trivial
 |x::xs,b,o,⟨⟨u,h1,h2⟩,h3⟩=>⟨⟨u,by cases ro with|true=>exact h1|false=>exact h.G _ _ _ h1,h2.ext h⟩,h3.ext h⟩
theorem A3z.ext {g g':Gh} {st st':St} (h:Ext g st g' st') {p:Option Place} {b o:Nat} (hx:A3z g st p b o):A3z g' st' p b o:=by
 cases p with
 |none=>trivial
 |some p=>
  obtain⟨h1,h2⟩:=hx
  refine⟨h.nxt _ h1,fun ht=>?_⟩
  obtain⟨h3,h4,h5,h6,h7⟩:=h.live _ ht h1
  obtain⟨q1,q2⟩:=h2 h3
  exact⟨q1.ext h h1 ht,by rw[h5];exact q2⟩
theorem VRv.ext {c:Cx} {g g':Gh} {st st':St} (h:Ext g st g' st') {a:Bool} {xs:List Cl} {v:Value} (hx:VRv c g st a xs v):VRv c g' st' a xs v:=by
 cases a with
 |true=>obtain⟨vs,e,hx⟩:=hx;exact⟨vs,e,hx.ext h⟩
 |false=>exact CRs.ext h hx
theorem VRt.ext {c:Cx} {g g':Gh} {st st':St} (h:Ext g st g' st'): ∀ {xs:List (Bool×List Cl)} {vs:List Value},VRt c g st xs vs->VRt c g' st' xs vs
 |[],[],_=>trivial
 |x::xs,v::vs,hx=>⟨hx.1.ext h,hx.2.ext h⟩
 |[],_::_,hx=>hx.elim
 |_::_,[],hx=>hx.elim
theorem VR.ext {c:Cx} {g g':Gh} {st st':St} (h:Ext g st g' st') {p:PV} {v:Value} (hx:VR c g st p v):VR c g' st' p v:=by
 cases p with
 |any=>trivial
 |v a xs=>exact VRv.ext h hx
 |box b off=>exact⟨h.nb _ hx.1,by rw[h.B b hx.1];exact hx.2⟩
 |el p ro xs=>obtain⟨b,o,e,hx,hp⟩:=hx;exact⟨b,o,e,hx.ext h,hp.ext h⟩
 |tup l=>obtain⟨vs,e,hx⟩:=hx;exact⟨vs,e,hx.ext h⟩
theorem CRs.len {c:Cx} {g:Gh} {st:St}: ∀ {xs:List Cl} {vs:List Value},CRs c g st xs vs->xs.length=vs.length
 |[],[],_=>rfl
 |x::xs,v::vs,hx=>by simp[CRs.len hx.2]
 |[],_::_,hx=>hx.elim
 |_::_,[],hx=>hx.elim
theorem CRs.get {c:Cx} {g:Gh} {st:St}: ∀ {xs:List Cl} {vs:List Value},CRs c g st xs vs-> ∀ {i:Nat} {x:Cl},xs[i]? =some x-> ∃v,vs[i]? =some v/\CR c g st x v
 |[],[],_,i,x,h=>by simp at h
 |x::xs,v::vs,hx,0,y,h=>by simp at h;subst h;exact⟨v,rfl,hx.1⟩
 |x::xs,v::vs,hx,i+1,y,h=>by simp at h;simpa using hx.2.get h
 |[],_::_,hx,_,_,_=>hx.elim
 |_::_,[],hx,_,_,_=>hx.elim
theorem CRs.drop {c:Cx} {g:Gh} {st:St}: ∀(n:Nat) {xs:List Cl} {vs:List Value},CRs c g st xs vs->CRs c g st (xs.drop n) (vs.drop n)
 |0,_,_,h=>h
 |n+1,[],[],_=>trivial
 |n+1,_::_,_::_,h=>h.2.drop n
 |_+1,[],_::_,h=>h.elim
 |_+1,_::_,[],h=>h.elim
theorem CRs.take {c:Cx} {g:Gh} {st:St}: ∀(n:Nat) {xs:List Cl} {vs:List Value},CRs c g st xs vs->CRs c g st (xs.take n) (vs.take n)
 |0,_,_,h=>trivial
 |n+1,[],[],_=>trivial
 |n+1,_::_,_::_,h=>⟨h.1,h.2.take n⟩
 |_+1,[],_::_,h=>h.elim
 |_+1,_::_,[],h=>h.elim
theorem CRs.app {c:Cx} {g:Gh} {st:St}: ∀ {xs ys:List Cl} {vs us:List Value},CRs c g st xs vs->CRs c g st ys us->CRs c g st (xs++ys) (vs++us)
 |[],_,[],_,_,h=>h
 |_::_,_,_::_,_,h,h'=>⟨h.1,h.2.app h'⟩
 |[],_,_::_,_,h,_=>h.elim
 |_::_,_,[],_,h,_=>h.elim
theorem CRs.splice {c:Cx} {g:Gh} {st:St} {xs ys:List Cl} {vs us:List Value} (h:CRs c g st xs vs) (o:Nat) (h':CRs c g st ys us):CRs c g st (Bn xs o ys) (Bn vs o us):=by
 unfold Bn
 rw[<-h'.len]
 exact((h.take o).app h').app (h.drop _)

theorem RM.world {c:Cx} {w w':World} {g:Gh} {st:St} (h:RM c g st w) (hw:Dc w w'):RM c g st w':=by
 refine⟨h.moved.trans (Moved.of_grew hw),?_,h.g0,h.old,?_,h.inj,h.boxG,?_,h.apart,h.tokBox,h.nodup,h.new⟩
 .intro b o v hv
  have:=h.lies b o v hv
  obtain⟨x,rfl⟩:=hw
  rw[cell?_ext]
  .exact this
  .unfold World.cell? at this
   simp only at this
   rcases Nat.lt_or_ge b w.heap.size with hlt|hge
   .exact hlt
   .rw[Array.getElem?_eq_none hge]at this;cases this
 .intro k cs hk
  obtain⟨vs,e,h1,h2,h3⟩:=h.box k cs hk
  refine⟨vs,e,?_,h2,h3⟩
  rw[hw.block _ (Array.getElem?_eq_some_iff.1 h1).1]
  exact h1
 .intro t ht
  obtain⟨h1,h2,h3⟩:=h.tok t ht
  exact⟨h1,h2.grew hw,h3⟩
theorem RM.drop {c:Cx} {w:World} {g:Gh} {st:St} (h:RM c g st w) {live:List Nat} (hl: ∀t,t∈live->t∈st.live) (hn:live.Nodup):RM c g {st with live:=live} w/\Ext g st g {st with live:=live}:=by
 have hE:Ext g st g {st with live:=live}:=⟨fun _ _ _ h=>h,fun _ _=>rfl,fun _ h=>h,fun _ h=>h,fun t ht _=>⟨hl t ht,rfl,rfl,rfl,fun _ _ _=>rfl⟩⟩
 refine⟨⟨h.moved,h.lies,h.g0,h.old,?_,h.inj,h.boxG,fun t ht=>h.tok t (hl t ht),fun t u ht hu=>h.apart t u (hl t ht) (hl u hu),fun t k ht=>h.tokBox t k (hl t ht),hn,h.new⟩,hE⟩
 intro k cs hk
 obtain⟨vs,e,h1,h2,h3⟩:=h.box k cs hk
 exact⟨vs,e,h1,h2,h3.ext hE⟩
def Ij (G U:A9):A9:=fun b o=>(G b o).or (U b o)
theorem Vn (G U:A9):G.sub (Ij G U):=fun b o v h=>by simp[Ij,h]
def Gh.tk (g:Gh) (U:A9) (n:Nat) (f:Ac) (v:Value) (z:Nat):Gh:=
 ⟨Ij g.G U,g.B,fun t=>if t=n then f else g.F t,fun t=>if t=n then v else g.V t,fun t=>if t=n then z else g.S t⟩
theorem RM.addTok {c:Cx} {w:World} {g:Gh} {st:St} (h:RM c g st w) {n:Nat} (hnew:n∉st.used) {f:Ac} {U:A9} (v:Value) (z:Nat) (hf:Bu f w) (hn: ∀b o,f b=some o->Fu c b) (ha: ∀t,t∈st.live->(g.F t).apart f)
  (hb: ∀k,st.has k=true->f (g.B k)=none) (hU:U.sub (B9 f)):
  RM c (g.tk U n f v z) {st with live:=n::st.live,used:=n::st.used} w/\
  Ext g st (g.tk U n f v z) {st with live:=n::st.live,used:=n::st.used}:=by
 have hne: ∀t,t∈st.live->t≠n:=fun t ht e=>hnew (e▸(h.tok t ht).1)
 have hE:Ext g st (g.tk U n f v z) {st with live:=n::st.live,used:=n::st.used}:=by
  refine⟨Vn _ _,fun _ _=>rfl,fun _ h=>h,fun _ h=>List.mem_cons_of_mem _ h,fun t ht hlt=>?_⟩
  have hne':t≠n:=fun e=>hnew (e▸hlt)
  have ht':t∈st.live:=by simpa [hne'] using ht
  refine⟨ht',by simp[Gh.tk,hne'],by simp[Gh.tk,hne'],by simp[Gh.tk,hne'],fun b o hs=>?_⟩
  simp only[Gh.tk,Ij]
  have:U b o=none:=by
   cases hu:U b o with
   |none=>rfl
   |some x=>
    exfalso
    have h1:=hU b o x hu
    rcases ha t ht' b with h2|h2
    .rw[h2]at hs;cases hs
    .unfold B9 Ac.cell at h1;rw[h2]at h1;cases h1
  rw[this];simp
 refine⟨⟨h.moved,?_,fun b o v hv=>Vn _ _ _ _ _ (h.g0 _ _ _ hv),h.old,?_,h.inj,?_,?_,?_,?_,?_,?_⟩,hE⟩
 .intro b o v hv
  simp only[Gh.tk,Ij]at hv
  cases hg:g.G b o with
  |some x=>rw[hg]at hv;simp at hv;subst hv;exact h.lies b o x hg
  |none=>rw[hg]at hv;simp at hv;exact Bu.cell hf (hU b o v hv)
 .intro k cs hk
  obtain⟨vs,e,h1,h2,h3⟩:=h.box k cs hk
  exact⟨vs,e,h1,h2,h3.ext hE⟩
 .intro k o hk
  simp only[Gh.tk,Ij,h.boxG k o hk]
  cases hu:U (g.B k) o with
  |none=>rfl
  |some x=>have h1:=hU _ _ _ hu;unfold B9 Ac.cell at h1;rw[hb k hk]at h1;cases h1
 .intro t ht
  rcases List.mem_cons.1 ht with e|ht'
  .subst e;exact⟨by simp,by simpa [Gh.tk] using hf,by simpa [Gh.tk] using hn⟩
  .obtain⟨h1,h2,h3⟩:=h.tok t ht'
   simp only[Gh.tk,hne t ht',if_false]
   exact⟨List.mem_cons_of_mem _ h1,h2,h3⟩
 .intro t u ht hu htu
  rcases List.mem_cons.1 ht with e1|ht'
  .rcases List.mem_cons.1 hu with e2|hu'
   .exact(htu (e1.trans e2.symm)).elim
   .simp only[Gh.tk,hne u hu',e1,if_false,if_true];exact Ac.apart_symm (ha u hu')
  .rcases List.mem_cons.1 hu with e2|hu'
   .simp only[Gh.tk,hne t ht',e2,if_false,if_true];exact ha t ht'
   .simp only[Gh.tk,hne t ht',hne u hu',if_false];exact h.apart t u ht' hu' htu
 .intro t k ht hk
  rcases List.mem_cons.1 ht with e|ht'
  .simp only[Gh.tk,e,if_true];exact hb k hk
  .simp only[Gh.tk,hne t ht',if_false];exact h.tokBox t k ht' hk
 .exact List.nodup_cons.2 ⟨fun hm=>hne _ hm rfl,h.nodup⟩
 .intro b o v hv
  simp only[Gh.tk,Ij]at hv
  cases hg:g.G b o with
  |some x=>rw[hg]at hv;simp at hv;subst hv;exact h.new b o x hg
  |none=>
   rw[hg]at hv;simp at hv
   have h1:=hU b o v hv
   unfold B9 Ac.cell at h1
   cases hf:f b with
   |none=>rw[hf]at h1;cases h1
   |some ob=>exact .inr (hn b ob hf)
end
section

theorem Mo (st:St) (k:Nat) (xs:List Cl) (i:Nat):({st with boxes:=(k,xs)::st.boxes}:St).bx i=if i=k then some xs else st.bx i:=by
 show cond (Nat.beq i k) (some xs) (Cr i st.boxes)=_
 by_cases h:i=k
 .subst h;simp
 .have:Nat.beq i k=false:=by
   cases hb:Nat.beq i k with
   |false=>rfl
   |true=>exact(h (Nat.eq_of_beq_eq_true hb)).elim
  simp[h,this,St.bx]
theorem Hk (st:St) (k:Nat) (xs:List Cl) (i:Nat):({st with boxes:=(k,xs)::st.boxes}:St).has i=(decide (i=k) || st.has i):=by
 unfold St.has
 rw[Mo]
 by_cases h:i=k<;>simp[h]
theorem RM.newBox {cx:Cx} {w:World} {g:Gh} {st:St} (h:RM cx g st w) {n:Nat} (hnew:st.has n=false) {xs:List Cl} {vs:List Value} (hx:CRs cx g st xs vs) (e:TypeId):
  RM cx ⟨g.G,fun k=>if k=n then w.heap.size else g.B k,g.F,g.V,g.S⟩ {st with boxes:=(n,xs)::st.boxes} (w.alloc (.cells vs.toArray e))/\
  Ext g st ⟨g.G,fun k=>if k=n then w.heap.size else g.B k,g.F,g.V,g.S⟩ {st with boxes:=(n,xs)::st.boxes}:=by
 have hne: ∀k,st.has k=true->k≠n:=fun k hk e=>by rw[e,hnew]at hk;cases hk
 have hE:Ext g st ⟨g.G,fun k=>if k=n then w.heap.size else g.B k,g.F,g.V,g.S⟩ {st with boxes:=(n,xs)::st.boxes}:=
  ⟨fun _ _ _ h=>h,fun b hb=>by simp only;rw[if_neg (hne b hb)],fun b hb=>by rw[Hk,hb];simp,fun _ h=>h,fun t ht _=>⟨ht,rfl,rfl,rfl,fun _ _ _=>rfl⟩⟩
 have hlt: ∀k,st.has k=true->g.B k<w.heap.size:=fun k hk=>by
  obtain⟨cs,hcs⟩:=Gd hk
  obtain⟨vs,e,h1,_⟩:=h.box k _ hcs
  exact(Array.getElem?_eq_some_iff.1 h1).1
 have hG: ∀o,g.G w.heap.size o=none:=fun o=>by
  cases hg:g.G w.heap.size o with
  |none=>rfl
  |some x=>
   have:=h.lies _ _ _ hg
   unfold World.cell? at this
   simp at this
 have hW:=h.world ((Dc.refl w).alloc (.cells vs.toArray e))
 have hcase: ∀k,({st with boxes:=(n,xs)::st.boxes}:St).has k=true->k=n\/st.has k=true:=fun k hk=>by
  rw[Hk]at hk
  simpa using hk
 refine⟨⟨hW.moved,hW.lies,hW.g0,hW.old,?_,?_,?_,hW.tok,hW.apart,?_,hW.nodup,hW.new⟩,hE⟩
 .intro k cs hk
  rw[Mo]at hk
  by_cases hkn:k=n
  .subst hkn
   simp at hk
   subst hk
   refine⟨vs,e,?_,?_,hx.ext hE⟩
   .simp only[if_true];exact heap_alloc_new w _
   .simp only[if_true];exact .inl h.moved.size
  .rw[if_neg hkn]at hk
   obtain⟨us,e',h1,h2,h3⟩:=hW.box k cs hk
   refine⟨us,e',?_,?_,h3.ext hE⟩
   .simp only;rw[if_neg hkn];exact h1
   .simp only;rw[if_neg hkn];exact h2
 .intro i j hi hj hij
  simp only at hij
  by_cases h1:i=n
  .by_cases h2:j=n
   .rw[h1,h2]
   .rw[if_pos h1,if_neg h2]at hij
    have:=hlt j ((hcase j hj).resolve_left h2);omega
  .by_cases h2:j=n
   .rw[if_neg h1,if_pos h2]at hij
    have:=hlt i ((hcase i hi).resolve_left h1);omega
   .rw[if_neg h1,if_neg h2]at hij
    exact h.inj i j ((hcase i hi).resolve_left h1) ((hcase j hj).resolve_left h2) hij
 .intro k o hk
  simp only
  by_cases h1:k=n
  .rw[if_pos h1];exact hG o
  .rw[if_neg h1];exact h.boxG k o ((hcase k hk).resolve_left h1)
 .intro t k ht hk
  simp only
  by_cases h1:k=n
  .rw[if_pos h1]
   cases hf:g.F t w.heap.size with
   |none=>rfl
   |some o=>have:=(h.tok t ht).2.1.lt _ _ hf;omega
  .rw[if_neg h1];exact h.tokBox t k ht ((hcase k hk).resolve_left h1)

theorem Moved.row {cx:Cx} {w:World} (h:Moved cx.f0 cx.w0 w) {b:Nat} (hb:Fu cx b) (D:Array Value):Moved cx.f0 cx.w0 (w.setRow b D):=
 ⟨h.os,h.tape,h.output,by simpa [World.setRow] using h.size,fun k hk hf=>by
  have hne:k≠b:=fun e=>by
   subst e
   rcases hb with q|q
   .omega
   .rw[hf]at q;cases q
  rw[setRow_other w b k D hne];exact h.block k hk hf⟩
theorem RM.setRow {cx:Cx} {w:World} {g:Gh} {st:St} (h:RM cx g st w) {b:Nat} {C D:Array Value} {e:TypeId} (hb:w.heap[b]? =some (.cells C e (0,0))) (hn:Fu cx b)
  (hG: ∀o v,g.G b o=some v->D[o]? =some v) (hbox: ∀k,st.has k=true->g.B k≠b) (htok: ∀t,t∈st.live->g.F t b=none):RM cx g st (w.setRow b D):=by
 refine⟨h.moved.row hn D,?_,h.g0,h.old,?_,h.inj,h.boxG,?_,h.apart,h.tokBox,h.nodup,h.new⟩
 .intro c o v hv
  by_cases hc:c=b
  .subst hc
   rw[cell_of_row _ _ _ D e (0,0) (setRow_heap w c C D e (0,0) hb)]
   exact hG o v hv
  .have h1:=h.lies c o v hv
   unfold World.cell? at h1 ⊢
   simp only at h1 ⊢
   rw[setRow_other w b c D hc]
   exact h1
 .intro k cs hk
  obtain⟨vs,e',h1,h2,h3⟩:=h.box k cs hk
  exact⟨vs,e',by rw[setRow_other w b _ D (hbox k (Gs hk))];exact h1,h2,h3⟩
 .intro t ht
  obtain⟨h1,h2,h3⟩:=h.tok t ht
  refine⟨h1,fun k o hk=>?_,h3⟩
  rw[setRow_other w b k D (fun e=>by rw[e,htok t ht]at hk;cases hk)]
  exact h2 k o hk
theorem RM.setBox {cx:Cx} {w:World} {g:Gh} {st:St} (h:RM cx g st w) {b off:Nat} {cs xs:List Cl} {vs us:List Value} {e:TypeId} (hc:st.bx b=some cs)
  (hv:w.heap[g.B b]? =some (.cells vs.toArray e (0,0))) (hcs:CRs cx g st cs vs) (hx:CRs cx g st xs us) (hfit:off+xs.length<=cs.length):
  RM cx g {st with boxes:=(b,Bn cs off xs)::st.boxes} (w.setCells (g.B b) off us)/\Ext g st g {st with boxes:=(b,Bn cs off xs)::st.boxes}:=by
 have hlt:st.has b=true:=Gs hc
 have hhas: ∀k,({st with boxes:=(b,Bn cs off xs)::st.boxes}:St).has k=true->st.has k=true:=fun k hk=>by
  rw[Hk]at hk
  by_cases hkb:k=b
  .rw[hkb];exact hlt
  .simpa [hkb] using hk
 have hE:Ext g st g {st with boxes:=(b,Bn cs off xs)::st.boxes}:=
  ⟨fun _ _ _ h=>h,fun _ _=>rfl,fun k hk=>by rw[Hk,hk];simp,fun _ h=>h,fun t ht _=>⟨ht,rfl,rfl,rfl,fun _ _ _=>rfl⟩⟩
 have hsp:w.setCells (g.B b) off us=w.setRow (g.B b) (Bn vs off us).toArray:=by
  rw[Ab4 (g.B b) e us off vs.toArray w hv (by rw[<-hx.len];simp only[List.size_toArray];rw[<-hcs.len];exact hfit)]
  rfl
 obtain⟨vs',e',h1,h2,h3⟩:=h.box b cs hc
 have hk: ∀k cs',k≠b->st.bx k=some cs'->g.B k≠g.B b:=fun k cs' hkb hk' he=>hkb (h.inj k b (Gs hk') hlt he)
 rw[hsp]
 refine⟨⟨h.moved.row h2 _,?_,h.g0,h.old,?_,?_,?_,?_,h.apart,?_,h.nodup,h.new⟩,hE⟩
 .intro c o v hv'
  have hne:c≠g.B b:=fun e=>by rw[e,h.boxG b o hlt]at hv';cases hv'
  have h1:=h.lies c o v hv'
  unfold World.cell? at h1 ⊢
  simp only at h1 ⊢
  rw[setRow_other w _ c _ hne]
  exact h1
 .intro k cs' hk'
  rw[Mo]at hk'
  by_cases hkb:k=b
  .subst hkb
   simp at hk'
   subst hk'
   exact⟨Bn vs off us,e,setRow_heap w _ _ _ e (0,0) hv,h2,(hcs.splice off hx).ext hE⟩
  .rw[if_neg hkb]at hk'
   obtain⟨vs2,e2,g1,g2,g3⟩:=h.box k cs' hk'
   exact⟨vs2,e2,by rw[setRow_other w _ _ _ (hk k cs' hkb hk')];exact g1,g2,g3.ext hE⟩
 .intro i j hi hj;exact h.inj i j (hhas i hi) (hhas j hj)
 .intro k o hk';exact h.boxG k o (hhas k hk')
 .intro t ht
  obtain⟨g1,g2,g3⟩:=h.tok t ht
  refine⟨g1,fun k o hk'=>?_,g3⟩
  rw[setRow_other w _ k _ (fun e=>by rw[e,h.tokBox t b ht hlt]at hk';cases hk')]
  exact g2 k o hk'
 .intro t k ht hk';exact h.tokBox t k ht (hhas k hk')

theorem Dy (i j:Nat) (x:PV) (r:List (Nat×PV)):look i ((j,x)::r)=if i=j then x else look i r:=by
 show(cond (Nat.beq i j) x (look i r))=_
 by_cases h:i=j
 .subst h;simp
 .have:Nat.beq i j=false:=by
   cases hb:Nat.beq i j with
   |false=>rfl
   |true=>exact(h (Nat.eq_of_beq_eq_true hb)).elim
  simp[h,this]
theorem Ah5 (st:St) (i j:Nat) (x:PV):(st.set j x).get i=if i=j then x else st.get i:=Dy i j x st.env
theorem Bwi {G:A9}: ∀ {s:Sh} {v:Value} {d:s.den},Aky s v=some d->RdD G s d v/\ ∀e cs,s= .sl e cs-> ∃a,v= .slice a 0 0:=by
 intro s v d h
 cases s with
 |int k=>
  cases v<;>simp only[Aky]at h<;>try cases h
  rename_i j n
  split at h
  .rename_i hk;subst hk
   split at h
   .rename_i hw;simp at h;subst h;exact⟨⟨rfl,hw⟩,fun _ _ e=>by cases e⟩
   .cases h
  .cases h
 |bool=>
  cases v<;>simp only[Aky]at h<;>try cases h
  exact⟨rfl,fun _ _ e=>by cases e⟩
 |str=>
  cases v<;>simp only[Aky]at h<;>try cases h
  exact⟨rfl,fun _ _ e=>by cases e⟩
 |junk=>cases v<;>simp only[Aky]at h<;>try cases h
 |sl e cs=>
  cases v<;>simp only[Aky]at h<;>try cases h
  rename_i p n c
  rcases p with _|p
  .rcases n with _|n
   .rcases c with _|c
    .simp at h;subst h
     exact⟨⟨none,0,rfl,Nat.le_refl _,Nat.zero_le _,fun _=>rfl,fun i d hd=>by simp at hd⟩,fun _ _ _=>⟨none,rfl⟩⟩
    .simp at h
   .simp at h
  .simp at h
theorem Nt {cx:Cx} {g:Gh} {st:St}: ∀ {ss:List Sh} {vs:List Value} {xs:List Cl},Nq ss vs=some xs->CRs cx g st xs vs
 |[],[],xs,h=>by simp[Nq]at h;subst h;trivial
 |s::r,v::t,xs,h=>by
  simp only[Nq,ob]at h
  split at h
  .rename_i d hd
   split at h
   .rename_i ys hy
    simp at h;subst h
    have h1:=Bwi (G:=g.G) hd
    exact⟨⟨h1.1,h1.2⟩,Nt hy⟩
   .cases h
  .cases h
 |[],_::_,_,h=>by simp[Nq]at h
 |_::_,[],_,h=>by simp[Nq]at h
theorem Bym {cx:Cx} {g:Gh} {st:St} {a:Bool} {ss:List Sh} {v:Value} {p:PV} (h:Bti a ss v=some p):VR cx g st p v:=by
 unfold Bti at h
 split at h
 .rename_i c
  simp only[ob]at h
  split at h
  .rename_i xs hx;simp at h;subst h
   exact⟨c.toList,by simp,Nt hx⟩
  .cases h
 .cases h
 .simp only[ob]at h
  split at h
  .rename_i xs hx;simp at h;subst h
   exact Nt hx
  .cases h
def Env (nt:Nat) (cx:Cx) (g:Gh) (st:St) (a:Act):Prop:=a.tmps.size=nt/\a.defers=[]/\(∀i,VR cx g st (st.get i) (a.tmps.getD i undef))/\ ∀i v,cx.pin[i]? =some v->a.tmps.getD i undef=v
theorem Kg {ty:Tys} {cx:Cx} {nt:Nat} {g:Gh} {st:St} {a:Act} (hE:Env nt cx g st a) {t:Nat} {x:Operand} {p:PV} (h:evO ty st t x=some p):VR cx g st p (a.eval x):=by
 cases x with
 |tmp i=>simp[evO]at h;subst h;exact hE.2.2.1 i
 |const v=>
  simp only[evO]at h
  split at h
  .exact Bym h
  .simp at h;subst h;trivial
 |global g=>simp[evO]at h
 |func f=>simp[evO]at h
theorem Kh {ty:Tys} {cx:Cx} {nt:Nat} {g:Gh} {st:St} {a:Act} (hE:Env nt cx g st a) {t:Nat} {x:Operand} {c:Cl} (h:ev1 ty st t x=some c):CR cx g st c (a.eval x):=by
 simp only[ev1,ob]at h
 split at h
 .rename_i p hp
  split at h
  .rename_i c';cases h
   exact(Kg hE hp).1
  .cases h
 .cases h
theorem Wo {ty:Tys} {cx:Cx} {nt:Nat} {g:Gh} {st:St} {a:Act} (hE:Env nt cx g st a) {t:Nat} {x:Operand} {n:Int} (h:evI ty st t x=some n):a.eval x= .int .i64 n/\(Lit.int .i64 n).wf=true:=by
 simp only[evI,ob]at h
 split at h
 .rename_i c hc
  split at h
  .rename_i m tk;cases h
   exact(Kh hE hc).1
  .cases h
 .cases h
theorem B16 {ty:Tys} {cx:Cx} {nt:Nat} {g:Gh} {st:St} {a:Act} (hE:Env nt cx g st a) {t:Nat} {x:Operand} {b:Bool} (h:evB ty st t x=some b):a.eval x= .bool b:=by
 simp only[evB,ob]at h
 split at h
 .rename_i c hc
  split at h
  .rename_i m tk;cases h
   exact(Kh hE hc).1
  .cases h
 .cases h
end
section

def zv:Sh->Value
 | .int k=>.int k 0
 | .bool=>.bool false
 | .str=>.string ByteArray.empty
 | .sl _ _=>.slice none 0 0
 | .junk=>.bool false
def Bb9 (P:Program):List Field->List Sh->Nat->Prop
 |[],[],_=>True
 |f::fs,s::r,off=>f.name≠ "_" /\f.offset=off/\(match s with| .int _=>∃k,P.underlying f.type=some (.int k)| .bool=>P.underlying f.type=some .bool|_=>False)/\Bb9 P fs r (off+1)
 |_,_,_=>False
def Ar3 (P:Program):List Field->List Sh->Nat->Prop
 |[],ss,_=>ss=[]
 |f::fs,ss,off=>f.name≠ "_" /\f.offset=off/\
  ((∃s r,ss=s::r/\(match s with| .int _=>∃k,P.underlying f.type=some (.int k)| .bool=>P.underlying f.type=some .bool|_=>False)/\Ar3 P fs r (off+1))\/
   ∃s1 s2 i,ss=s1++s2/\P.underlying f.type=some (.struct (P.fieldsOf f.type))/\P.stoodInHeld f.type=false/\P.info? f.type=some i/\i.size=s1.length/\Bb9 P (P.fieldsOf f.type).toList s1 0/\Ar3 P fs s2 (off+s1.length))
structure TyOk (P:Program) (t:Nat) (T:Ty):Prop where
 inf: ∃i z d,P.info? t=some i/\i.size=T.shs.length/\i.zero=some z/\z.cells.toList=T.shs.map zv/\P.underlying t=some d/\d.isRow=T.agg
 fld: ∀(j off sz:Nat),T.offs[j]? =some (off,sz)-> ∃fs f fi,P.underlying t=some (.struct fs)/\fs[j]? =some f/\f.offset=off/\P.info? f.type=some fi/\fi.size=sz/\0<sz
 bld:0<T.offs.length-> ∃fs:Array Field,P.underlying t=some (.struct fs)/\fs.toList.mapM (fun f=>(P.info? f.type).map fun i=>(f.offset,i.size))=some T.offs
 sl: ∀e cs,T.agg=false->T.shs=[.sl e cs]->P.underlying t=some (.slice e)/\ ∃z b,RowTy P t e z cs.length b/\b<=4096/\z.cells.toList=cs.map zv
 sml: ∀e cs,T.agg=false->T.shs=[.sl e cs]->cs.length<=4096
 elt: ∀e k,T.agg=false->T.shs=[.sl e [.int k]]->P.underlying e=some (.int k)
 int: ∀k,T.agg=false->T.shs=[.int k]->P.underlying t=some (.int k)
 str:T.agg=false->T.shs=[.str]->P.underlying t=some .string
 bool:T.agg=false->T.shs=[.bool]->P.underlying t=some .bool
 eqv:T.agg=true->T.eq=true->P.underlying t=some (.struct (P.fieldsOf t))/\P.stoodInHeld t=false/\P.eqGuardType P.depth t=false/\Ar3 P (P.fieldsOf t).toList T.shs 0
 one:T.agg=false->T.shs.length=1
 fty: ∀(j u:Nat),T.fty[j]? =some u-> ∃(fs:Array Field) (f:Field),P.underlying t=some (.struct fs)/\fs[j]? =some f/\f.type=u
def RVs (G:A9):List Sg->List Value->Prop
 |[],[]=>True
 |x::xs,v::vs=>RdD G x.sh x.val v/\RVs G xs vs
 |_,_=>False
def RVv (G:A9) (r:RV) (v:Value):Prop:=
 match r.1 with
 |true=>∃vs:List Value,v= .agg vs.toArray/\RVs G r.2 vs
 |false=>RVs G r.2 [v]
def RVa (G:A9):List RV->List Value->Prop
 |[],[]=>True
 |x::xs,v::vs=>RVv G x v/\RVa G xs vs
 |_,_=>False
def OVs (f:Ac):List Sg->List Value->Prop
 |[],[]=>True
 |x::xs,v::vs=>∃g h,Fb f [g,h]/\Bf g x.sh x.val v/\OVs h xs vs
 |_,_=>False
def OVv (f:Ac) (r:RV) (v:Value):Prop:=
 match r.1 with
 |true=>∃vs:List Value,v= .agg vs.toArray/\OVs f r.2 vs
 |false=>OVs f r.2 [v]
def OVt (f:Ac):List RV->List Value->Prop
 |[],[]=>True
 |x::xs,v::vs=>∃g h,Fb f [g,h]/\OVv g x v/\OVt h xs vs
 |_,_=>False
def Su (res:List RV) (v:Value) (f:Ac):Prop:=
 match res with
 |[r]=>OVv f r v
 |rs=>∃vs:List Value,v= .tuple vs.toArray/\OVt f rs vs
def AV1 (G:A9) (g:Ac) (m:Nat) (x:RV) (v:Value):Prop:=
 match m with
 |0=>RVv G x v
 |_=>OVv g x v
def AVa (G:A9):Ac->List Nat->List RV->List Value->Prop
 |_,_,[],[]=>True
 |f,ms,x::xs,v::vs=>∃g h,Fb f [g,h]/\AV1 G g (ms.headD 0) x v/\AVa G h ms.tail xs vs
 |_,_,_,_=>False
def MOa:Ac->List Nat->List RV->List Value->Prop
 |_,_,outs,[]=>outs=[]
 |f,ms,outs,v::vs=>match ms.headD 0,outs with
  |1,o::os=>∃g h,Fb f [g,h]/\OVv g o v/\MOa h ms.tail os vs
  |1,[]=>False
  |_,outs=>MOa f ms.tail outs vs
def BVa (G:A9) (b:Nat) (vs0:List Value):List Nat->List RV->List Value->Prop
 |_,[],[]=>True
 |ms,x::xs,v::vs=>(if ms.headD 0=3 then v= .pointer (some ⟨b,0,none⟩)/\RVs G x.2 vs0 else RVv G x v)/\BVa G b vs0 ms.tail xs vs
 |_,_,_=>False
def Of (G:A9) (res:List RV) (v:Value):Prop:=
 match res with
 |[r]=>RVv G r v
 |rs=>∃vs:List Value,v= .tuple vs.toArray/\RVa G rs vs
def Bto (P:Program) (f:FuncId) (kd:Kind) (F:An):Prop:=
 match kd with
 | .plain=>∀(as:List RV) (res:List RV×List RV) (vals:List Value) (w:World) (G:A9),(F as).val=some res->Ez G w->TOk w Ac.emp->RVa G as vals->Calls P f vals.toArray w (Ab1 w (Su res.1))
 | .ret=>∀(as:List RV) (res:List RV×List RV) (vals:List Value) (w:World) (G:A9),(F as).val=some res->Ez G w->TOk w Ac.emp->RVa G as vals->Calls P f vals.toArray w fun e w'=>
   ∃b vs ty ag r,e= .returned (.pointer (some ⟨b,0,none⟩))/\Dc w w'/\w.heap.size<=b/\w'.heap[b]? =some (.cells (vs:List Value).toArray ty (0,0))/\res.1=[(ag,r)]/\RVs G r vs
 | .view=>∀(as:List RV) (res:List RV×List RV) (vals:List Value) (w:World) (G:A9),(F as).val=some res->Ez G w->TOk w Ac.emp->RVa G as vals->Calls P f vals.toArray w fun e w'=>
   ∃v G',e= .returned v/\Dc w w'/\Ez G' w'/\G.sub G'/\(∀b o x,G' b o=some x->G b o=some x\/w.heap.size<=b)/\Of G' res.1 v
 | .box ms pinned own=>∀(as:List RV) (res:List RV×List RV) (vals:List Value) (w:World) (G:A9) (b:Nat) (vs0:List Value) (e0:TypeId),(F as).val=some res->Ez G w->TOk w (Ac.one b (.cells vs0.toArray e0 (0,0)))->(∀o,G b o=none)->
   w.heap[b]? =some (.cells vs0.toArray e0 (0,0))->BVa G b vs0 ms as vals->Calls P f vals.toArray w fun e w'=>
   ∃v vs1 e1 ag new,e= .returned v/\Moved (Ac.one b (.cells vs0.toArray e0 (0,0))) w w'/\(own=true-> ∃f,Bu f w'/\f.from_ w.heap.size/\Su res.1 v f)/\(own=false-> ∃G':A9,Ez G' w'/\G.sub G'/\(∀c o x,G' c o=some x->G c o=some x\/w.heap.size<=c)/\Of G' res.1 v/\RVs G' new vs1)/\w'.heap[b]? =some (.cells (vs1:List Value).toArray e1 (0,0))/\
    res.2=[(ag,new)]/\(own=true->RVs G new vs1)/\(pinned=true-> ∀(j:Nat) (s:Sg),(new:List Sg)[j]? =some s->Ep s.sh=true->vs1[j]? =vs0[j]?)
 | .lend ms=>∀(as:List RV) (res:List RV×List RV) (vals:List Value) (w:World) (G:A9) (fr:Ac),(F as).val=some res->Ez G w->TOk w fr->Bu fr w->(∀b,(fr b).isSome=true-> ∀o,G b o=none)->
   AVa G fr ms as vals->Calls P f vals.toArray w fun e w'=>
   ∃v f g,e= .returned v/\Moved fr w w'/\Bu f w'/\Bu g w'/\f.apart g/\f.newOr fr w.heap.size/\g.newOr fr w.heap.size/\Su res.1 v f/\MOa g ms res.2 vals
 | .vgive _=>∀(as:List RV) (res:List RV×List RV) (vals:List Value) (w:World) (G:A9),(F as).val=some res->Ez G w->TOk w Ac.emp->RVa G as vals->Calls P f vals.toArray w fun e w'=>
   ∃v G',e= .returned v/\Dc w w'/\Ez G' w'/\G.sub G'/\(∀b o x,G' b o=some x->G b o=some x\/w.heap.size<=b)/\Of G' res.1 v
structure CfgOk (P:Program) (g:Cfg):Prop where
 mix:P.follows .mixedOrders=true
 ty: ∀t T,g.ty t=some T->TyOk P t T
 ctr: ∀f,Bto P f (g.kind f) (g.ctr f)
 fn: ∀f vs r,(g.ctr f vs).val=some r-> ∃F,P.funcs[f]? =some F/\(F.name== "runtime.NumGoroutine")=false/\F.body.isSome=true

theorem Bca {P:Program} {w:World} {t:TypeId} {i:TypeInfo} (h:P.info? t=some i):(typeInfo t).run P w= .ok i w:=by
 simp[typeInfo,program,Sem.run_bind,Sem.run,h]
theorem Bmi {P:Program} {w:World} {t:TypeId} {i:TypeInfo} {z:Value} (h:P.info? t=some i) (hz:i.zero=some z):(zeroValue t).run P w= .ok z w:=by
 simp[zeroValue,Sem.run_bind,Bca h,hz]
theorem Aw5 {P:Program} {w:World} {t:TypeId} {i:TypeInfo} (h:P.info? t=some i):(sizeOf t).run P w= .ok i.size w:=by
 simp[sizeOf,Sem.run_bind,Bca h]
theorem Apu {P:Program} {w:World} (e:TypeId) (v:Value):(newVar e v).run P w= .ok ⟨w.heap.size,0,none⟩ (w.alloc (.cells v.cells e)):=rfl
theorem Ah {α ρ:Type} {x:Option α} {f:α->Option ρ} {r:ρ} (h:ob x f=some r): ∃a,x=some a/\f a=some r:=by
 cases x with
 |none=>simp[ob]at h
 |some a=>exact⟨a,rfl,h⟩
theorem Tree.run_some {α ρ:Type} {k:α->Option ρ} {r:ρ}: ∀ {t:Tree α},t.run k=some r-> ∃a,t.val=some a/\k a=some r
 | .leaf x,h=>⟨x,rfl,h⟩
 | .fail,h=>by cases h
 | .chk b t,h=>by
  cases b with
  |true=>exact Tree.run_some (t:=t) h
  |false=>cases h
 | .br b t f,h=>by
  cases b with
  |true=>exact Tree.run_some (t:=t) h
  |false=>exact Tree.run_some (t:=f) h
 | .ob x f,h=>by
  cases x with
  |some a=>exact Tree.run_some (t:=f a) h
  |none=>cases h
 | .sm x f g,h=>by
  cases x with
  |inl a=>exact Tree.run_some (t:=f a) h
  |inr a=>exact Tree.run_some (t:=g a) h
theorem Bb {ρ:Type} {b:Bool} {x:Option ρ} {r:ρ} (h:chk b x=some r):b=true/\x=some r:=by
 cases b with
 |true=>exact⟨rfl,h⟩
 |false=>simp[chk]at h
theorem A30 {ρ:Type} {b:Bool} {f:Bool->Option ρ} {r:ρ} (h:brf b f=some r):f b=some r:=by
 cases b<;>exact h

theorem Ab7 {d:Option Nat} {n:Nat} {st st':St} {cs:List Cl} (hd:d=some n) (h:(Ef.newBox cs).app d st=some st'):st.has n=false/\st'={st with boxes:=(n,cs)::st.boxes}:=by
 subst hd
 simp only[Ef.app,ob]at h
 cases hh:st.has n with
 |true=>rw[hh]at h;cases h
 |false=>rw[hh]at h;simp at h;exact⟨rfl,h.symm⟩
def Ef.simple:Ef->Bool
 | .rs _ _ _=>false
 | .fz _ _=>false
 |_=>true
theorem Ja {G:A9} {s:Sh} {d:s.den} {v:Value} (h:RdD G s d v):v.oneCell'=true/\v.cells= #[v]:=by
 cases s with
 |int k=>simp only[RdD]at h;rw[h.1];exact⟨rfl,rfl⟩
 |bool=>simp only[RdD]at h;rw[h];exact⟨rfl,rfl⟩
 |str=>simp only[RdD]at h;rw[h];exact⟨rfl,rfl⟩
 |junk=>simpa only[RdD] using h
 |sl e cs=>simp only[RdD]at h;obtain⟨a,c,rfl,_⟩:=h;exact⟨rfl,rfl⟩
theorem CRs.one {cx:Cx} {g:Gh} {st:St}: ∀ {xs:List Cl} {vs:List Value},CRs cx g st xs vs-> ∀v∈vs,v.oneCell'=true
 |[],[],_,v,hv=>by cases hv
 |x::xs,u::vs,h,v,hv=>by
  rcases List.mem_cons.1 hv with rfl|hv
  .exact(Ja h.1.1).1
  .exact h.2.one v hv
 |[],_::_,h,_,_=>h.elim
 |_::_,[],h,_,_=>h.elim
theorem VRv.cells {cx:Cx} {g:Gh} {st:St} {a:Bool} {xs:List Cl} {v:Value} (h:VRv cx g st a xs v):CRs cx g st xs v.cells.toList:=by
 cases a with
 |true=>obtain⟨vs,rfl,h⟩:=h;simpa [Value.cells] using h
 |false=>
  cases xs with
  |nil=>exact(h:False).elim
  |cons x r=>
   have hr:r=[]:=by
    cases r with
    |nil=>rfl
    |cons y r=>exact(h.2:False).elim
   subst hr
   rw[(Ja h.1.1).2];exact h
theorem A31 (G:A9) (s:Sh):RdD G s s.zero (zv s)/\ ∀e cs,s= .sl e cs-> ∃a,zv s= .slice a 0 0:=by
 cases s with
 |int k=>refine⟨⟨rfl,by cases k<;>rfl⟩,fun _ _ e=>by cases e⟩
 |bool=>exact⟨rfl,fun _ _ e=>by cases e⟩
 |str=>exact⟨rfl,fun _ _ e=>by cases e⟩
 |junk=>exact⟨⟨rfl,rfl⟩,fun _ _ e=>by cases e⟩
 |sl e cs=>exact⟨⟨none,0,rfl,Nat.le_refl _,Nat.zero_le _,fun _=>rfl,fun i d hd=>by simp[Sh.zero]at hd⟩,fun _ _ _=>⟨none,rfl⟩⟩
theorem A2y (cx:Cx) (g:Gh) (st:St): ∀(cs:List Sh),CRs cx g st (A2w cs) (cs.map zv)
 |[]=>trivial
 |s::r=>⟨⟨(A31 g.G s).1,(A31 g.G s).2⟩,A2y cx g st r⟩

section
variable {P:Program} {o:Oper} {a:Act} {w:World} {next:Act->World->Prop} {Q:Exit->Act->World->Prop}
theorem C9 {v:Value} {w':World} (h:(execOp a.eval o).run P w= .ok (.value v) w') (hn:next (a.put o.dst v) w'):o.wp P a w next Q:=by
 unfold Oper.wp;rw[h];exact hn
theorem A8f {w':World} (h:(execOp a.eval o).run P w= .ok .skip w') (hn:next (a.put o.dst undef) w'):o.wp P a w next Q:=by
 unfold Oper.wp;rw[h];exact hn
end

section
variable {P:Program} {g:Cfg} (hC:CfgOk P g) {cx:Cx} {gh:Gh} {st:St} {a:Act} {w:World} {nt:Nat} (hM:RM cx gh st w) (hE:Env nt cx gh st a)
 {o:Oper} {ρ:Type} {k:PV->Ef->Option ρ} {r:ρ} {next:Act->World->Prop} {Q:Exit->Act->World->Prop}
 (hk: ∀pv ef,k pv ef=some r-> ∃st',ef.app o.dst st=some st')
 (hn: ∀gh' pv ef st' v w',k pv ef=some r->ef.app o.dst st=some st'->RM cx gh' st' w'->Ext gh st gh' st'->st'.env=st.env->VR cx gh' st' pv v->next (a.put o.dst v) w')
include hC hM hE hk hn
theorem Bqg {x:Operand} (ho:o.op= .move x\/o.op= .assign x) (h:ob (evO g.ty st o.type x) (fun p=>k p .none)=some r):o.wp P a w next Q:=by
 obtain⟨p,hp,h⟩:=Ah h
 refine C9 (v:=a.eval x) (w':=w) ?_ (hn gh p .none st _ w h rfl hM (Ext.refl _ _) rfl (Kg hE hp))
 unfold execOp;rcases ho with ho|ho<;>rw[ho]<;>rfl
theorem B0o {c x y:Operand} (ho:o.op= .pick c x y) (h:ob (evB g.ty st g.bool c) (fun t=>brf t fun t=>ob (evO g.ty st o.type (if t then x else y)) fun p=>k p .none)=some r):o.wp P a w next Q:=by
 obtain⟨t,ht,h⟩:=Ah h
 have h:=A30 h
 obtain⟨p,hp,h⟩:=Ah h
 refine C9 (v:=a.eval (if t then x else y)) (w':=w) ?_ (hn gh p .none st _ w h rfl hM (Ext.refl _ _) rfl (Kg hE hp))
 unfold execOp;rw[ho]
 simp only[B16 hE ht,asBool,Sem.run_bind,Sem.run_pure,Result.andThen_ok]
 cases t<;>rfl
theorem Byn {t:Nat} (ho:o.op= .alloc t) (h:ob (g.ty t) (fun T=>ob o.dst fun d=>k (.box d 0) (.newBox (A2w T.shs)))=some r):o.wp P a w next Q:=by
 obtain⟨T,hT,h⟩:=Ah h
 obtain⟨d,hd,h⟩:=Ah h
 obtain⟨i,z,_,h1,h2,h3,h4,h5,h6⟩:=(hC.ty t T hT).inf
 obtain⟨st',hst⟩:=hk _ _ h
 obtain⟨hnew,hst2⟩:=Ab7 hd hst
 subst hst2
 obtain⟨m,e⟩:=hM.newBox hnew (A2y cx gh st T.shs) t
 refine C9 (v:=.pointer (some ⟨w.heap.size,0,none⟩)) (w':=w.alloc (.cells (T.shs.map zv).toArray t)) ?_ (hn _ _ _ _ _ _ h hst m e rfl (show VR cx _ _ (.box d 0) _ from⟨by rw[Hk];simp,by simp⟩))
 unfold execOp;rw[ho]
 simp only[Instr.alloc,Sem.run_bind,Bmi h1 h3,Result.andThen_ok,Sem.run_pure,Apu]
 rw[<-h4]
theorem B17 {t:Nat} {x:Operand} (ho:o.op= .box t x) (h:ob (evO g.ty st t x) (fun p=>match p with
  | .v _ xs=>ob o.dst fun d=>k (.box d 0) (.newBox xs)
  |_=>none)=some r):o.wp P a w next Q:=by
 obtain⟨p,hp,h⟩:=Ah h
 split at h
 .rename_i ag xs
  obtain⟨d,hd,h⟩:=Ah h
  have hv:VRv cx gh st ag xs (a.eval x):=Kg hE hp
  obtain⟨st',hst⟩:=hk _ _ h
  obtain⟨hnew,hst2⟩:=Ab7 hd hst
  subst hst2
  obtain⟨m,e⟩:=hM.newBox hnew hv.cells t
  refine C9 (v:=.pointer (some ⟨w.heap.size,0,none⟩)) (w':=w.alloc (.cells (a.eval x).cells.toList.toArray t)) ?_ (hn _ _ _ _ _ _ h hst m e rfl (show VR cx _ _ (.box d 0) _ from⟨by rw[Hk];simp,by simp⟩))
  unfold execOp;rw[ho]
  simp only[Instr.box,Sem.run_bind,Result.andThen_ok,Sem.run_pure,Apu]
 .cases h
end
end
section

theorem B0p {cx:Cx} {g:Gh} {st:St} {x:Cl} {v:Value} (h0:x.tok=A8d x.sh) (h:RdD cx.G0 x.sh x.val v) (hs:cx.G0.sub g.G):CR cx g st x v:=by
 obtain⟨s,d,t⟩:=x
 simp only at h0;subst h0
 refine⟨RdD.sub hs _ _ _ h,?_⟩
 cases s with
 |sl e cs=>exact h
 |int k=>intro _ _ e;cases e
 |bool=>intro _ _ e;cases e
 |str=>intro _ _ e;cases e
 |junk=>intro _ _ e;cases e
theorem ElR.cells {cx:Cx} {g:Gh} {st:St} {ro:Bool} (hs:cx.G0.sub g.G): ∀ {xs:List Cl} {b o:Nat},ElR cx g st ro xs b o-> ∃us:List Value,CRs cx g st xs us/\ ∀j u,us[j]? =some u->g.G b (o+j)=some u
 |[],b,o,_=>⟨[],trivial,fun j u h=>by simp at h⟩
 |x::xs,b,o,⟨⟨v,h1,h2⟩,h3⟩=>by
  obtain⟨us,h4,h5⟩:=ElR.cells hs h3
  refine⟨v::us,⟨h2,h4⟩,fun j u h=>?_⟩
  cases j with
  |zero=>simp at h;subst h;cases ro with
   |true=>simpa using hs _ _ _ h1
   |false=>simpa using h1
  |succ j=>simp at h;have:=h5 j u h;rw[show o+(j+1)=o+1+j by omega];exact this
theorem ElR.take {cx:Cx} {g:Gh} {st:St} {ro:Bool}: ∀(n:Nat) {xs:List Cl} {b o:Nat},ElR cx g st ro xs b o->ElR cx g st ro (xs.take n) b o
 |0,_,_,_,_=>trivial
 |n+1,[],_,_,_=>trivial
 |n+1,x::xs,b,o,h=>⟨h.1,h.2.take n⟩
theorem ElR.drop {cx:Cx} {g:Gh} {st:St} {ro:Bool}: ∀(n:Nat) {xs:List Cl} {b o:Nat},ElR cx g st ro xs b o->ElR cx g st ro (xs.drop n) b (o+n)
 |0,_,_,_,h=>h
 |n+1,[],_,_,_=>trivial
 |n+1,x::xs,b,o,h=>by have:=h.2.drop n;rw[show o+(n+1)=o+1+n by omega];exact this
theorem Bqh {cx:Cx} {g:Gh} {st:St} {ro:Bool} {k:Nat->Tok} (hs:cx.G0.sub g.G): ∀ {cs:List Sh} {d:dens cs} {j b o:Nat},Eo (cond ro cx.G0 g.G) cs d b o->
  (∀(n:Nat) (s:Sg) u,D4 cs d n=some s->Ep s.sh=true->(cond ro cx.G0 g.G) b (o+n)=some u->RdD (cond ro cx.G0 g.G) s.sh s.val u->CR cx g st ⟨s.sh,s.val,k (j+n)⟩ u)->ElR cx g st ro (Bmf k j cs d) b o
 |[],_,_,_,_,_,_=>trivial
 |s::r,d,j,b,o,h,hc=>by
  simp only[Eo]at h
  obtain⟨⟨v,h1,h2⟩,h3⟩:=h
  refine⟨⟨v,h1,?_⟩,Bqh hs h3 (fun n s' u h4 h5 h6 h7=>?_)⟩
  .cases hsl:Ep s with
   |true=>
    have:=hc 0 ⟨s,d.1⟩ v rfl hsl h1 h2
    have e:Jq s (k j)=k (j+0):=by cases s<;>first|rfl|cases hsl
    rw[e];exact this
   |false=>
    have e:Jq s (k j)= .nil:=by cases s<;>first|rfl|cases hsl
    rw[e]
    refine⟨?_,fun e' cs' he=>?_⟩
    .cases ro with
     |true=>exact RdD.sub hs _ _ _ h2
     |false=>exact h2
    .simp only at he;rw[he]at hsl;cases hsl
  .have:=hc (n+1) s' u h4 h5 (by rw[<-h6,show b=b from rfl,show o+(n+1)=o+1+n by omega]) h7
   rw[show j+1+n=j+(n+1) by omega];exact this
theorem Afb {P:Program} {t:TypeId} {d:TypeDesc} (h:P.underlying t=some d) {w:World}:(isAgg t).run P w= .ok d.isRow w:=by
 unfold isAgg
 rw[Sem.run_bind,run_underlying h w]
 cases d<;>rfl
theorem Bmj {P:Program} {t:Nat} {T:Ty} (hT:TyOk P t T) {w:World} {b o:Nat} {us:List Value} (hr:w.rangeAt b o us) (hl:us.length=T.shs.length):
  ∃v,(loadVar t ⟨b,o,none⟩).run P w= .ok v w/\(T.agg=true->v= .agg us.toArray)/\(T.agg=false->us=[v]):=by
 obtain⟨i,z,d,h1,h2,h3,h4,h5,h6⟩:=hT.inf
 cases hg:T.agg with
 |true=>
  exact⟨.agg us.toArray,run_loadVar_mid w b o t us d hr h5 (by rw[h6,hg]) (by rw[h1];simp[h2,hl]),fun _=>rfl,fun e=>by cases e⟩
 |false=>
  have h1':=hT.one hg
  match us,hl with
  |[u],_=>
   refine⟨u,?_,⟨fun e=>(by cases e),fun _=>rfl⟩⟩
   unfold loadVar
   rw[Sem.run_bind,Afb h5,h6,hg]
   have:=hr 0 u rfl
   simp only[Nat.add_zero]at this
   simp[Go.load,Sem.run,this]
  |[],hl=>rw[h1']at hl;cases hl
  |_::_::_,hl=>rw[h1']at hl;simp at hl
theorem VRv.mk {cx:Cx} {g:Gh} {st:St} {a:Bool} {xs:List Cl} {us:List Value} {v:Value} (h:CRs cx g st xs us) (h1:a=true->v= .agg us.toArray) (h2:a=false->us=[v]):VRv cx g st a xs v:=by
 cases a with
 |true=>exact⟨us,h1 rfl,h⟩
 |false=>have:=h2 rfl;subst this;exact h
theorem Bhb {w:World} {b o n:Nat} {vs:List Value} {e:TypeId} (h:w.heap[b]? =some (.cells vs.toArray e (0,0))):w.rangeAt b o ((vs.drop o).take n):=by
 intro j v hv
 rw[cell_of_row w b _ _ e (0,0) h]
 rw[List.getElem?_take]at hv
 split at hv
 .rw[List.getElem?_drop]at hv;simpa using hv
 .cases hv

section
variable {P:Program} {g:Cfg} (hC:CfgOk P g) {cx:Cx} {gh:Gh} {st:St} {a:Act} {w:World} {nt:Nat} (hM:RM cx gh st w) (hE:Env nt cx gh st a)
 {o:Oper} {ρ:Type} {k:PV->Ef->Option ρ} {r:ρ} {next:Act->World->Prop} {Q:Exit->Act->World->Prop}
 (hk: ∀pv ef,k pv ef=some r-> ∃st',ef.app o.dst st=some st')
 (hn: ∀gh' pv ef st' v w',k pv ef=some r->ef.app o.dst st=some st'->RM cx gh' st' w'->Ext gh st gh' st'->st'.env=st.env->VR cx gh' st' pv v->next (a.put o.dst v) w')
include hC hM hE hk hn
theorem B0q {t:Nat} {x:Operand} (ho:o.op= .load t x) (h:(ob (g.ty t) fun T=>ob (evO g.ty st t x) fun p=>
  ob (match p with
    | .box b off=>ob (st.bx b) fun cs=>some ((cs.drop off).take T.shs.length)
    | .el _ _ xs=>some (xs.take T.shs.length)
    |_=>none) fun xs=>
  chk (Nat.beq xs.length T.shs.length) (k (.v T.agg xs) .none))=some r):o.wp P a w next Q:=by
 obtain⟨T,hT,h⟩:=Ah h
 obtain⟨p,hp,h⟩:=Ah h
 obtain⟨xs,hx,h⟩:=Ah h
 obtain⟨hl,h⟩:=Bb h
 have hl:=Nat.eq_of_beq_eq_true hl
 have hok:=hC.ty t T hT
 have hv:=Kg hE hp
 have key: ∃b off us,a.eval x= .pointer (some ⟨b,off,none⟩)/\w.rangeAt b off us/\CRs cx gh st xs us:=by
  split at hx
  .rename_i b off
   obtain⟨cs,hc,hx⟩:=Ah hx
   simp at hx;subst hx
   obtain⟨vs,e,h1,h2,h3⟩:=hM.box b cs hc
   exact⟨gh.B b,off,_,hv.2,Bhb h1,(h3.drop off).take _⟩
  .rename_i pl ro ys
   simp at hx;subst hx
   obtain⟨b,off,e,hr,_⟩:=hv
   obtain⟨us,h1,h2⟩:=(hr.take T.shs.length).cells hM.g0
   exact⟨b,off,us,e,fun j u hj=>hM.lies _ _ _ (h2 j u hj),h1⟩
  .cases hx
 obtain⟨b,off,us,he,hr,hcr⟩:=key
 obtain⟨v,h1,h2,h3⟩:=Bmj hok hr (by rw[<-hcr.len];exact hl)
 refine C9 (v:=v) (w':=w) ?_ (hn gh _ .none st _ w h rfl hM (Ext.refl _ _) rfl (show VR cx gh st (.v T.agg xs) v from VRv.mk hcr h2 h3))
 unfold execOp;rw[ho]
 simp only[he,Instr.loadAt,Instr.sureAddr,Sem.run_bind,Sem.run_pure,Result.andThen_ok,h1]
theorem Bmk {t f:Nat} {x:Operand} (ho:o.op= .fieldAddr t x f) (h:(ob (g.ty t) fun T=>ob T.offs[f]? fun p=>ob (evO g.ty st t x) fun q=>
  match q with
  | .box b off=>k (.box b (off+p.1)) .none
  | .el q ro xs=>k (.el (match q with|some q=>some (q.add p.1)|none=>none) ro (xs.drop p.1)) .none
  |_=>none)=some r):o.wp P a w next Q:=by
 obtain⟨T,hT,h⟩:=Ah h
 obtain⟨p,hp,h⟩:=Ah h
 obtain⟨q,hq,h⟩:=Ah h
 obtain⟨off,sz⟩:=p
 obtain⟨fs,fd,fi,h1,h2,h3,h4,h5,h6⟩:=(hC.ty t T hT).fld f off sz hp
 have hv:=Kg hE hq
 have run: ∀b c,a.eval x= .pointer (some ⟨b,c,none⟩)->(execOp a.eval o).run P w= .ok (.value (.pointer (some ⟨b,c+off,none⟩))) w:=fun b c he=>by
  unfold execOp;rw[ho]
  have hz: ¬fi.size=0:=by omega
  simp only[he,Instr.fieldAt,Instr.sureAddr,Sem.run_bind,Sem.run_pure,Result.andThen_ok,run_underlying h1 w,h2,fieldPlace,Aw5 h4,hz,if_false,Addr.add_mid,h3]
 split at h
 .rename_i b c
  exact C9 (run _ _ hv.2) (hn gh _ .none st _ w h rfl hM (Ext.refl _ _) rfl (show VR cx gh st (.box b (c+off)) _ from⟨hv.1,rfl⟩))
 .rename_i q ro xs
  obtain⟨b,c,e,hr,hp⟩:=hv
  refine C9 (run _ _ e) (hn gh _ .none st _ w h rfl hM (Ext.refl _ _) rfl (show VR cx gh st (.el _ ro (xs.drop off)) _ from⟨b,c+off,rfl,hr.drop off,?_⟩))
  cases q with
  |none=>trivial
  |some q=>
   obtain⟨q1,q2⟩:=hp
   refine⟨q1,fun ht=>?_⟩
   obtain⟨q3,n,cap,q4,q5⟩:=q2 ht
   exact⟨q3,n,cap,q4,by simp only[Place.add];omega⟩
 .cases h
theorem Bph {x:Operand} (ho:o.op= .nilCheck x) (h:(ob (evO g.ty st 0 x) fun p=>match p with
  | .box b off=>k (.box b off) .none
  |_=>none)=some r):o.wp P a w next Q:=by
 obtain⟨p,hp,h⟩:=Ah h
 have hv:=Kg hE hp
 split at h
 .rename_i b off
  refine C9 (v:=a.eval x) (w':=w) ?_ (hn gh _ .none st _ w h rfl hM (Ext.refl _ _) rfl hv)
  unfold execOp;rw[ho]
  simp[hv.2,Sem.run_pure]
 .cases h
theorem Bml {t:Nat} {x i:Operand} (ho:o.op= .indexAddr t x i) (h:(ob (ev1 g.ty st t x) fun c=>ob (evI g.ty st g.int i) fun n=>
  match c with
  |⟨.sl e cs,l,tk⟩=>ob (g.ty t) fun T=>match T.agg,T.shs with
   |false,[.sl _ c0]=>chk (Nat.beq c0.length cs.length) (chk (B13 tk n.toNat) (ob (idx (l:List (dens cs)) n) fun d=>k (.el (elP tk e cs l n.toNat d) (Agr tk) (Bmf (elT tk e cs l n.toNat d) 0 cs d)) .none))
   |_,_=>none
  |_=>none)=some r):o.wp P a w next Q:=by
 obtain⟨c,hc,h⟩:=Ah h
 obtain⟨n,hi,h⟩:=Ah h
 split at h
 .rename_i e cs l tk _
  obtain⟨T,hT,h⟩:=Ah h
  split at h
  .rename_i ag shs e0 c0 hag hsh
   obtain⟨hb,h⟩:=Bb h
   have hlen:=Nat.eq_of_beq_eq_true hb
   obtain⟨hok,h⟩:=Bb h
   obtain⟨d,hd,h⟩:=Ah h
   obtain⟨hu,z,by_,hR,hb2,hz⟩:=(hC.ty t T hT).sl e0 c0 hag hsh
   obtain⟨ie,he1,he2,he3,he4⟩:=hR.info
   have hcr:=Kh hE hc
   obtain⟨hrd,htk⟩:=hcr
   simp only[RdD]at hrd
   obtain⟨ad,cap,hv,hcap,hmax,hnil,hel⟩:=hrd
   unfold idx at hd
   split at hd
   .rename_i hpos
    have hlt:n.toNat<List.length (α:=dens cs) l:=(List.getElem?_eq_some_iff.1 hd).1
    obtain⟨b,c,hE1,hrd⟩:=hel _ _ hd
    subst hE1
    have hown: ∀t',tk= .own t'->t'∈st.live->Ben gh t' e cs l n.toNat d/\c=0/\gh.V t'= .slice (some ⟨b,0,none⟩) (List.length (α:=dens cs) l) cap/\
      ∀j u,j<cs.length->gh.G b (c+n.toNat*cs.length+j)=some u->(gh.F t').cell b (n.toNat*cs.length+j)=some u:=by
     intro t' hte hl
     subst hte
     obtain⟨q1,q2,q3,q4,q5⟩:=htk.2 hl
     have hOD:Bf (gh.F t') (.sl e cs) l (gh.V t'):=by rw[<-q3];exact q1
     refine⟨⟨hOD,by rw[<-q3];exact q2,q4,hd⟩,?_⟩
     simp only[Bf]at q1
     obtain⟨css,rw_,hs,r1,r2,r3⟩:=q1
     obtain⟨hl1,⟨⟨a',hE'⟩,hz'⟩|⟨b',cap',cur,hE',hg',hnc,hcm,hsz,htk'⟩⟩:=r1
     .rw[hz']at hlt;omega
     .rw[hv]at hE'
      cases hE'
      refine⟨rfl,by rw[<-q3,hv],fun j u hj hG=>?_⟩
      have hFr:(gh.F t') b=some (.cells cur e (0,0)):=r2.2 rw_ (by simp) b _ hg'
      have hw:=(hM.tok t' hl).2.1 b _ hFr
      have h1:=hM.lies _ _ _ hG
      rw[cell_of_row w b _ cur e (0,0) hw]at h1
      unfold Ac.cell
      rw[hFr]
      simpa [Nat.zero_add] using h1
    have hG0:Agr tk=true->Eo cx.G0 cs d b (c+n.toNat*cs.length):=fun hr=>by
     have key:RdD cx.G0 (.sl e cs) l (a.eval x)->Eo cx.G0 cs d b (c+n.toNat*cs.length):=fun hk=>by
      simp only[RdD]at hk
      obtain⟨ad',cap',hv',_,_,_,hel'⟩:=hk
      obtain⟨b',c',hE',hrd'⟩:=hel' _ _ hd
      rw[hv,hE']at hv'
      cases hv'
      exact hrd'
     cases tk with
     |ro=>exact key htk
     |pin j=>exact key htk.1
     |nil=>
      obtain⟨a',ha'⟩:=htk e cs rfl
      rw[hv]at ha'
      injection ha' with _ hl0 _
      omega
     |_=>cases hr
    refine C9 (v:=.pointer (some ⟨b,c+n.toNat*cs.length,none⟩)) (w':=w) ?_ (hn gh _ .none st _ w h rfl hM (Ext.refl _ _) rfl (show VR cx gh st (.el (elP tk e cs l n.toNat d) (Agr tk) (Bmf (elT tk e cs l n.toNat d) 0 cs d)) _ from⟨b,_,rfl,Bqh hM.g0 ?_ (fun m s u k1 k2 k3 k4=>?_),?_⟩))
    .unfold execOp;rw[ho]
     have hcond:0<=n/\n<(List.length (α:=dens cs) l:Int):=⟨hpos,by omega⟩
     simp only[(Wo hE hi).1,hv,Instr.indexAt,asIntOf,Sem.run_bind,Sem.run_pure,Result.andThen_ok,run_underlying hu w,hcond,and_self,if_true,Aw5 he1,Addr.add_mid,he3,hlen,Bool.and_false,Bool.false_eq_true,if_false]
    .cases hr:Agr tk with
     |true=>exact hG0 hr
     |false=>exact hrd
    .rw[Nat.zero_add]
     have hRd:RdD gh.G s.sh s.val u:=by
      cases hr:Agr tk with
      |true=>rw[hr]at k4;exact RdD.sub hM.g0 _ _ _ k4
      |false=>rw[hr]at k4;exact k4
     refine⟨hRd,?_⟩
     cases tk with
     |ro=>exact k4
     |pin j=>exact k4
     |nil=>exact k4
     |rd=>trivial
     |row t'=>trivial
     |elt _ _ _ _ _ _ _=>trivial
     |bag _ _=>trivial
     |nst _=>trivial
     |grd _=>trivial
     |prt _ _ _ _ _=>trivial
     |one s' i' t'=>
      have hi':n.toNat=i':=Nat.eq_of_beq_eq_true hok
      subst hi'
      obtain⟨p1,p2⟩:=htk.2.2 d m s hd k1 k2
      refine⟨by simpa using p1,fun hl=>?_⟩
      obtain⟨b',n',cap',u',r1,r2,r3⟩:=p2 hl
      rw[hv]at r1
      cases r1
      have k3':gh.G b (n.toNat*cs.length+m)=some u:=by simpa [Agr] using k3
      rw[r2]at k3'
      cases k3'
      exact r3
     |own t'=>
      refine⟨htk.1,fun hl=>?_⟩
      obtain⟨p1,p2,p3,p4⟩:=hown t' rfl hl
      have hm:m<cs.length:=by
       have: ∀(cs:List Sh) (d:dens cs) (m:Nat) (s:Sg),D4 cs d m=some s->m<cs.length:=by
        intro cs
        induction cs with
        |nil=>intro d m s h;simp[D4]at h
        |cons x r ih=>intro d m s h;cases m with
         |zero=>simp
         |succ m=>simp only[D4]at h;have:=ih _ _ _ h;simp;omega
       exact this cs d m s k1
      exact⟨p1,k1,b,_,_,p3,p4 m u hm k3⟩
    .cases tk with
     |own t'=>
      refine⟨htk.1,fun hl=>?_⟩
      obtain⟨p1,p2,p3,p4⟩:=hown t' rfl hl
      exact⟨p1,_,_,p3,by rw[p2];simp⟩
     |_=>trivial
   .cases hd
  .cases h
 .cases h
theorem Byo {t f:Nat} {x:Operand} (ho:o.op= .field t x f) (h:(ob (g.ty t) fun T=>ob T.offs[f]? fun p=>ob T.fty[f]? fun u=>ob (g.ty u) fun U=>ob (evO g.ty st t x) fun q=>
  match q with
  | .v true xs=>chk (Nat.beq ((xs.drop p.1).take U.shs.length).length U.shs.length) (k (.v U.agg ((xs.drop p.1).take U.shs.length)) .none)
  |_=>none)=some r):o.wp P a w next Q:=by
 obtain⟨T,hT,h⟩:=Ah h
 obtain⟨p,hp,h⟩:=Ah h
 obtain⟨u,hu,h⟩:=Ah h
 obtain⟨U,hU,h⟩:=Ah h
 obtain⟨q,hq,hf⟩:=Ah h
 clear h
 obtain⟨off,sz⟩:=p
 obtain⟨fs,fd,fi,h1,h2,h3,h4,h5,h6⟩:=(hC.ty t T hT).fld f off sz hp
 obtain⟨fs',fd',g1,g2,g3⟩:=(hC.ty t T hT).fty f u hu
 rw[h1]at g1
 cases g1
 rw[h2]at g2
 cases g2
 subst g3
 obtain⟨i,z,d,i1,i2,i3,i4,i5,i6⟩:=(hC.ty _ U hU).inf
 split at hf
 .rename_i xs
  obtain⟨hb,h⟩:=Bb hf
  have hlen:=Nat.eq_of_beq_eq_true hb
  obtain⟨vs,he,hvs⟩:=Kg hE hq
  have hcut:=(hvs.drop off).take U.shs.length
  have hl2:((vs.drop off).take U.shs.length).length=U.shs.length:=by rw[<-hcut.len];exact hlen
  cases hag:U.agg with
  |true=>
   refine C9 (v:=.agg ((vs.drop off).take U.shs.length).toArray) (w':=w) ?_ (hn gh _ .none st _ w h rfl hM (Ext.refl _ _) rfl ?_)
   .unfold execOp;rw[ho]
    simp only[he,Instr.field,asAgg,Sem.run_bind,Sem.run_pure,Result.andThen_ok,run_underlying h1 w,h2,part,Afb i5,i6,hag,Aw5 i1,i2,h3,if_true]
    congr 3
    apply Array.toList_inj.1
    simp[List.take_drop]
    done
   .rw[hag];exact⟨_,rfl,hcut⟩
  |false=>
   have h1s:U.shs.length=1:=(hC.ty _ U hU).one hag
   rw[h1s]at hl2 hcut h
   obtain⟨v,hv⟩: ∃v,(vs.drop off).take 1=[v]:=by
    cases hh:(vs.drop off).take 1 with
    |nil=>rw[hh]at hl2;simp at hl2
    |cons y ys=>cases ys with
     |nil=>exact⟨y,rfl⟩
     |cons _ _=>rw[hh]at hl2;simp at hl2
   have hat:vs[off]? =some v:=by
    have:((vs.drop off).take 1)[0]? =some v:=by rw[hv];rfl
    simpa using this
   refine C9 (v:=v) (w':=w) ?_ (hn gh _ .none st _ w h rfl hM (Ext.refl _ _) rfl ?_)
   .unfold execOp;rw[ho]
    simp only[he,Instr.field,asAgg,Sem.run_bind,Sem.run_pure,Result.andThen_ok,run_underlying h1 w,h2,part,Afb i5,i6,hag,h3]
    simp[hat]
   .rw[hag];rw[hv]at hcut;exact hcut
 .cases hf
theorem Btp {x:Operand} {i:Nat} (ho:o.op= .extract x i) (h:(ob (evO g.ty st 0 x) fun p=>match p with
  | .tup l=>ob l[i]? fun q=>k (.v q.1 q.2) .none
  |_=>none)=some r):o.wp P a w next Q:=by
 obtain⟨p,hp,h⟩:=Ah h
 split at h
 .rename_i l
  obtain⟨q,hq,h⟩:=Ah h
  obtain⟨vs,e,hv⟩:=Kg hE hp
  have key: ∀ {l:List (Bool×List Cl)} {vs:List Value} {i:Nat} {q:Bool×List Cl},VRt cx gh st l vs->l[i]? =some q-> ∃v,vs[i]? =some v/\VRv cx gh st q.1 q.2 v:=by
   intro l
   induction l with
   |nil=>intro vs i q _ hq;simp at hq
   |cons y ys ih=>
    intro vs i q hv hq
    cases vs with
    |nil=>exact hv.elim
    |cons u us=>
     cases i with
     |zero=>simp at hq;subst hq;exact⟨u,rfl,hv.1⟩
     |succ i=>simp at hq;simpa using ih hv.2 hq
  obtain⟨v,h1,h2⟩:=key hv hq
  refine C9 (v:=v) (w':=w) ?_ (hn gh _ .none st _ w h rfl hM (Ext.refl _ _) rfl (show VR cx gh st (.v q.1 q.2) v from h2))
  unfold execOp;rw[ho]
  have h1':vs.toArray[i]? =some v:=by simpa using h1
  simp only[e,Instr.extract,Sem.run_bind,Sem.run_pure,Result.andThen_ok,h1']
 .cases h
end
end
section

theorem B0r {k:IntKind} {n:Int} (h:(Lit.int k n).wf=true):k.wrap n=n:=by
 cases k<;>simp[Lit.wf,IntKind.wrap,IntKind.min,IntKind.max,IntKind.signed,IntKind.bits]at h ⊢ <;>(try split)<;>omega
theorem Bzl {k:IntKind} {n m:Int} (h:(Lit.int k n).wf=true) (h0:0<=m) (h1:m<=n):(Lit.int k m).wf=true:=by
 cases k<;>simp[Lit.wf,IntKind.min,IntKind.max,IntKind.signed,IntKind.bits]at h ⊢ <;>omega
theorem B18 {k:IntKind} {n m:Int} (h:(Lit.int k n).wf=true) (h1:(0<=m/\m<=n)\/(n<=m/\m<=0)):(Lit.int k m).wf=true:=by
 cases k<;>simp[Lit.wf,IntKind.min,IntKind.max,IntKind.signed,IntKind.bits]at h ⊢ <;>omega
theorem B19 {k:IntKind} {x:Int} (h:(Lit.int k x).wf=true) (n:Nat):(Lit.int k (x.fdiv (2^n))).wf=true:=by
 have hp:(0:Int)<2^n:=Int.pow_pos (by omega)
 rw[Int.fdiv_eq_ediv_of_nonneg _ (by omega)]
 refine B18 h ?_
 rcases Int.lt_or_le x 0 with hx|hx
 .right
  refine⟨Int.le_ediv_of_mul_le hp ?_,?_⟩
  .have:x*2^n<=x*1:=Int.mul_le_mul_of_nonpos_left (by omega) (by omega)
   omega
  .have:=Int.ediv_lt_of_lt_mul hp (a:=x) (b:=0) (by omega);omega
 .left
  exact⟨Int.ediv_nonneg hx (by omega),Int.ediv_le_self _ hx⟩
theorem A2z {G:A9} {e:Nat} {cs:List Sh} {l:List (dens cs)} {v:Value} (h:RdD G (.sl e cs) l v) {a:Option Addr} (hv:v= .slice a 0 0) (H:A9):RdD H (.sl e cs) l v:=by
 simp only[RdD]at h ⊢
 obtain⟨a',cap,h1,h2,h3,h4,h5⟩:=h
 rw[hv]at h1
 injection h1 with e1 e2 e3
 have hl:l=[]:=List.eq_nil_of_length_eq_zero e2.symm
 subst hl
 exact⟨a,0,by simpa using hv,by simp,by simp,fun _=>rfl,fun i d hd=>by simp at hd⟩
def RdC (c:Cl) (v:Value):Prop:=(∀G,RdD G c.sh c.val v)/\c.tok= .nil/\Ab5 [c.sh]=true
theorem RdC.cr {cx:Cx} {g:Gh} {st:St} {c:Cl} {v:Value} (h:RdC c v):VR cx g st (.v false [c]) v:=by
 obtain⟨h1,h2,h3⟩:=h
 refine⟨⟨h1 _,?_⟩,trivial⟩
 rw[h2]
 intro e cs he
 rw[he]at h3;cases h3
theorem Gu {k:IntKind} {n:Int} (h:(Lit.int k n).wf=true):RdC ⟨.int k,n,.nil⟩ (.int k n):=⟨fun G=>⟨rfl,h⟩,rfl,rfl⟩
theorem Qz (b:Bool):RdC ⟨.bool,b,.nil⟩ (.bool b):=⟨fun G=>rfl,rfl,rfl⟩
theorem B0s {P:Program} {w:World} {ρ:Type} {op:BinOp} {k:IntKind} {x y:Int} {K:Cl->Option ρ} {r:ρ} {t:TypeId} (hx:(Lit.int k x).wf=true) (hy:(Lit.int k y).wf=true) (hs:op≠ .shl/\op≠ .shr) (h:Beh op k x y K=some r):
  ∃c v,K c=some r/\(binOp op t (.int k x) (.int k y)).run P w= .ok v w/\RdC c v:=by
 cases op<;>simp only[Beh]at h
 case add=>exact⟨_,_,h,by simp[binOp,Op.intArith,Sem.run],Gu (wf_wrap _ _)⟩
 case sub=>exact⟨_,_,h,by simp[binOp,Op.intArith,Sem.run],Gu (wf_wrap _ _)⟩
 case mul=>exact⟨_,_,h,by simp[binOp,Op.intArith,Sem.run],Gu (wf_wrap _ _)⟩
 case quo=>
  obtain⟨h1,h⟩:=Bb h
  obtain⟨h2,h⟩:=Bb h
  simp only[decide_eq_true_eq]at h1 h2
  have hw:(Lit.int k (x/y)).wf=true:=Bzl hx (Int.ediv_nonneg h2 (by omega)) (Int.ediv_le_self _ h2)
  refine⟨_,_,h,?_,Gu hw⟩
  have e1:x.tdiv y=x/y:=Int.tdiv_eq_ediv_of_nonneg h2
  have e2: ¬y=0:=by omega
  simp[binOp,Op.intDiv,Sem.run,e1,e2,B0r hw]
 case rem=>
  obtain⟨h1,h⟩:=Bb h
  obtain⟨h2,h⟩:=Bb h
  simp only[decide_eq_true_eq]at h1 h2
  have hw:(Lit.int k (x%y)).wf=true:=Bzl hx (Int.emod_nonneg _ (by omega)) (by have e:=Int.emod_def x y;have e':=Int.mul_nonneg (show 0<=y by omega) (Int.ediv_nonneg h2 (show 0<=y by omega));omega)
  refine⟨_,_,h,?_,Gu hw⟩
  have e1:x.tmod y=x%y:=Int.tmod_eq_emod_of_nonneg h2
  have e2: ¬y=0:=by omega
  simp[binOp,Op.intDiv,Sem.run,e1,e2]
 case and=>obtain⟨q,hq,h⟩:=Ah h;simp only[Bb5,Option.some.injEq]at hq;subst hq;exact⟨_,_,h,by simp[binOp,Op.intBits,Sem.run],Gu (wf_wrap _ _)⟩
 case or=>obtain⟨q,hq,h⟩:=Ah h;simp only[Bb5,Option.some.injEq]at hq;subst hq;exact⟨_,_,h,by simp[binOp,Op.intBits,Sem.run],Gu (wf_wrap _ _)⟩
 case xor=>obtain⟨q,hq,h⟩:=Ah h;simp only[Bb5,Option.some.injEq]at hq;subst hq;exact⟨_,_,h,by simp[binOp,Op.intBits,Sem.run],Gu (wf_wrap _ _)⟩
 case andNot=>obtain⟨q,hq,h⟩:=Ah h;simp only[Bb5,Option.some.injEq]at hq;subst hq;exact⟨_,_,h,by simp[binOp,Op.intBits,Sem.run],Gu (wf_wrap _ _)⟩
 case shl=>exact(hs.1 rfl).elim
 case shr=>exact(hs.2 rfl).elim
 all_goals
  obtain⟨q,hq,h⟩:=Ah h
  simp only[B11,Option.some.injEq]at hq
  subst hq
  exact⟨_,_,h,by simp[binOp,Op.intCmp,Sem.run],Qz _⟩
theorem Bhc {P:Program} {w:World} {ρ:Type} {op:BinOp} {k j:IntKind} {x y:Int} {K:Cl->Option ρ} {r:ρ} {t:TypeId} (hx:(Lit.int k x).wf=true) (h:Ak0 op k x y K=some r):
  ∃c v,K c=some r/\(binOp op t (.int k x) (.int j y)).run P w= .ok v w/\RdC c v:=by
 cases op<;>simp only[Ak0]at h<;>try cases h
 case shl=>
  obtain⟨h1,h⟩:=Bb h
  simp only[decide_eq_true_eq]at h1
  have e: ¬y<0:=by omega
  exact⟨_,_,h,by simp[binOp,Op.shift,Sem.run,e],Gu (wf_wrap _ _)⟩
 case shr=>
  obtain⟨h1,h⟩:=Bb h
  simp only[decide_eq_true_eq]at h1
  have e: ¬y<0:=by omega
  exact⟨_,_,h,by simp[binOp,Op.shift,Sem.run,e],Gu (B19 hx _)⟩

section
variable {P:Program} {g:Cfg} (hC:CfgOk P g) {cx:Cx} {gh:Gh} {st:St} {a:Act} {w:World} {nt:Nat} (hM:RM cx gh st w) (hE:Env nt cx gh st a)
 {o:Oper} {ρ:Type} {k:PV->Ef->Option ρ} {r:ρ} {next:Act->World->Prop} {Q:Exit->Act->World->Prop}
 (hk: ∀pv ef,k pv ef=some r-> ∃st',ef.app o.dst st=some st')
 (hn: ∀gh' pv ef st' v w',k pv ef=some r->ef.app o.dst st=some st'->RM cx gh' st' w'->Ext gh st gh' st'->st'.env=st.env->VR cx gh' st' pv v->next (a.put o.dst v) w')
include hC hM hE hk hn
theorem B0t {op:UnOp} {t:Nat} {x:Operand} (ho:o.op= .unOp op t x) (h:(ob (evO g.ty st t x) fun p=>ob (pun op p) fun r=>k r .none)=some r):o.wp P a w next Q:=by
 obtain⟨p,hp,h⟩:=Ah h
 obtain⟨q,hq,h⟩:=Ah h
 have hv:=Kg hE hp
 have key: ∃c v,q= .v false [c]/\(Op.unary op (a.eval x)).run P w= .ok v w/\RdC c v:=by
  unfold pun at hq
  split at hq
  .rename_i b tk _
   simp at hq;subst hq
   have e:a.eval x= .bool b:=hv.1.1
   exact⟨_,_,rfl,by simp[e,Op.unary,Sem.run],Qz _⟩
  .rename_i kk n tk _
   simp at hq;subst hq
   have e:a.eval x= .int kk n:=hv.1.1.1
   exact⟨⟨.int kk,kk.wrap (-(n:Int)),.nil⟩,_,(by rfl),by simp[e,Op.unary,Op.intArith,Sem.run],Gu (wf_wrap _ _)⟩
  .cases hq
 obtain⟨c,v,rfl,h1,h2⟩:=key
 refine C9 (v:=v) (w':=w) ?_ (hn gh _ .none st _ w h rfl hM (Ext.refl _ _) rfl h2.cr)
 unfold execOp;rw[ho]
 simp only[Sem.run_bind,Sem.run_pure,Result.andThen_ok,h1]
theorem B2a {args:Array Operand} {ts:Array TypeId} (ho:o.op= .call {callee:=.builtin .len,args:=args,argTypes:=ts}) (h:(match args.toList,ts.toList with
  |[x],[t]=>ob (g.ty t) fun T=>ob (ev1 g.ty st t x) fun c=>
   match T.agg,T.shs,c with
   |false,[.sl _ _],⟨.sl _ cs,l,_⟩=>k (.v false [⟨.int .i64,(List.length (α:=dens cs) l:Nat),.nil⟩]) .none
   |false,[.str],⟨.str,s,_⟩=>chk (decide ((s:ByteArray).size<=4294967296)) (k (.v false [⟨.int .i64,((s:ByteArray).size:Nat),.nil⟩]) .none)
   |_,_,_=>none
  |_,_=>none)=some r):o.wp P a w next Q:=by
 split at h
 .rename_i _ _ x t ha ht
  obtain⟨T,hT,h⟩:=Ah h
  obtain⟨c,hc,h⟩:=Ah h
  have ha':args= #[x]:=by rw[<-Array.toArray_toList (xs:=args),ha]
  have ht':ts= #[t]:=by rw[<-Array.toArray_toList (xs:=ts),ht]
  subst ha' ht'
  split at h
  .rename_i ag shs cl e0 c0 e cs l tk hag hsh
   obtain⟨hu,_⟩:=(hC.ty t T hT).sl e0 c0 hag hsh
   have hcr:=(Kh hE hc).1
   simp only[RdD]at hcr
   obtain⟨ad,cap,hv,hcap,hmax,_⟩:=hcr
   have hwf:(Lit.int .i64 ((List.length (α:=dens cs) l:Nat):Int)).wf=true:=by
    unfold maxLen at hmax
    simp[Lit.wf,IntKind.min,IntKind.max,IntKind.signed,IntKind.bits];omega
   refine C9 (v:=.int .i64 (List.length (α:=dens cs) l:Nat)) (w':=w) ?_ (hn gh _ .none st _ w h rfl hM (Ext.refl _ _) rfl (Gu hwf).cr)
   unfold execOp;rw[ho]
   simp[resolve,invoke,builtin,Builtin.len_,hv,run_underlying hu w,Sem.run_bind,Sem.run_pure,Result.andThen_ok,goInt]
  .rename_i ag shs cl s tk hag hsh
   have hu:=(hC.ty t T hT).str hag hsh
   have hv:a.eval x= .string s:=(Kh hE hc).1
   obtain⟨h1,h⟩:=Bb h
   simp only[decide_eq_true_eq]at h1
   have hwf:(Lit.int .i64 (((s:ByteArray).size:Nat):Int)).wf=true:=by
    simp[Lit.wf,IntKind.min,IntKind.max,IntKind.signed,IntKind.bits];omega
   refine C9 (v:=.int .i64 ((s:ByteArray).size:Nat)) (w':=w) ?_ (hn gh _ .none st _ w h rfl hM (Ext.refl _ _) rfl (Gu hwf).cr)
   unfold execOp;rw[ho]
   simp[resolve,invoke,builtin,Builtin.len_,hv,run_underlying hu w,Sem.run_bind,Sem.run_pure,Result.andThen_ok,goInt]
  .cases h
 .cases h
theorem B2b {args:Array Operand} {ts:Array TypeId} (ho:o.op= .call {callee:=.builtin .min,args:=args,argTypes:=ts}) (h:(match args.toList with
  |[x,y]=>ob (evI g.ty st g.int x) fun a=>ob (evI g.ty st g.int y) fun b=>k (.v false [⟨.int .i64,if b<a then b else a,.nil⟩]) .none
  |_=>none)=some r):o.wp P a w next Q:=by
 split at h
 .rename_i _ x y ha
  obtain⟨m,hm,h⟩:=Ah h
  obtain⟨n,hn',h⟩:=Ah h
  have ha':args= #[x,y]:=by rw[<-Array.toArray_toList (xs:=args),ha]
  subst ha'
  have h1:=Wo hE hm
  have h2:=Wo hE hn'
  have hwf:(Lit.int .i64 (if n<m then n else m)).wf=true:=by split;exact h2.2;exact h1.2
  refine C9 (v:=.int .i64 (if n<m then n else m)) (w':=w) ?_ (hn gh _ .none st _ w h rfl hM (Ext.refl _ _) rfl (Gu hwf).cr)
  unfold execOp;rw[ho]
  simp[resolve,invoke,builtin,Builtin.min_,Builtin.min2,h1.1,h2.1,Sem.run_bind,Sem.run_pure,Result.andThen_ok]
 .cases h
theorem B2c {args:Array Operand} {ts:Array TypeId} (ho:o.op= .call {callee:=.builtin .max,args:=args,argTypes:=ts}) (h:(match args.toList with
  |[x,y]=>ob (evI g.ty st g.int x) fun a=>ob (evI g.ty st g.int y) fun b=>k (.v false [⟨.int .i64,if a<b then b else a,.nil⟩]) .none
  |_=>none)=some r):o.wp P a w next Q:=by
 split at h
 .rename_i _ x y ha
  obtain⟨m,hm,h⟩:=Ah h
  obtain⟨n,hn',h⟩:=Ah h
  have ha':args= #[x,y]:=by rw[<-Array.toArray_toList (xs:=args),ha]
  subst ha'
  have h1:=Wo hE hm
  have h2:=Wo hE hn'
  have hwf:(Lit.int .i64 (if m<n then n else m)).wf=true:=by split;exact h2.2;exact h1.2
  refine C9 (v:=.int .i64 (if m<n then n else m)) (w':=w) ?_ (hn gh _ .none st _ w h rfl hM (Ext.refl _ _) rfl (Gu hwf).cr)
  unfold execOp;rw[ho]
  simp[resolve,invoke,builtin,Builtin.max_,Builtin.max2,h1.1,h2.1,Sem.run_bind,Sem.run_pure,Result.andThen_ok]
 .cases h
theorem Byp {t:Nat} {x:Operand} {lo hi:Option Operand} (ho:o.op= .slice t x lo hi none) (h:(ob (g.ty t) fun T=>ob (ev1 g.ty st t x) fun c=>ob (Apt g.ty st g.int lo) fun a=>ob (Apt g.ty st g.int hi) fun b=>
  Ah4 T c a b fun r=>k (.v false [r]) .none)=some r):o.wp P a w next Q:=by
 obtain⟨T,hT,h⟩:=Ah h
 obtain⟨c,hc,h⟩:=Ah h
 obtain⟨la,hla,h⟩:=Ah h
 obtain⟨hb,hhb,h⟩:=Ah h
 unfold Ah4 at h
 split at h
 .rename_i ag shs cl e0 c0 e cs l tk hag hsh _ _
  simp only at h
  obtain⟨q0,h⟩:=Bb h
  obtain⟨q1,h⟩:=Bb h
  obtain⟨q2,h⟩:=Bb h
  obtain⟨q3,h⟩:=Bb h
  have q0:=Nat.eq_of_beq_eq_true q0
  simp only[decide_eq_true_eq]at q1 q2 q3
  obtain⟨hu,z,by_,hR,hb2,hz⟩:=(hC.ty t T hT).sl e0 c0 hag hsh
  obtain⟨ie,he1,he2,he3,he4⟩:=hR.info
  obtain⟨hcr0,htk⟩:=Kh hE hc
  have hcr:=hcr0
  simp only[RdD]at hcr
  obtain⟨ad,cap,hv,hcap,hmax,hnil,hel⟩:=hcr
  obtain⟨H,hH⟩: ∃H:Nat,hb.getD (List.length (α:=dens cs) l:Nat)=(H:Int):=⟨_,(Int.toNat_of_nonneg (by omega)).symm⟩
  obtain⟨L,hL⟩: ∃L:Nat,la.getD 0=(L:Int):=⟨_,(Int.toNat_of_nonneg (by omega)).symm⟩
  rw[hH]at q2 q3 h
  rw[hL]at q1 q2 h
  simp only[Int.toNat_natCast]at h
  have hLH:L<=H:=by omega
  have hHn:H<=List.length (α:=dens cs) l:=by omega
  have hrun:(Instr.slice t (a.eval x) (lo.map a.eval) (hi.map a.eval) none).run P w= .ok (.slice (if cap=L then ad else ad.map (·.add (L*cs.length))) (H-L) (cap-L)) w:=by
   have hbound: ∀(v:Value) (n:Int) (y N:Nat) (cd:BoundsCode),v= .int .i64 n->n=(N:Int)->N<=y->(Instr.sliceBound v y cd).run P w= .ok N w:=by
    intro v n y N cd e1 e2 e3
    subst e1 e2
    have:(0:Int)<=(N:Int)/\(N:Int)<=(y:Int):=⟨by omega,by omega⟩
    simp[Instr.sliceBound,asIntOf,Sem.run_bind,Sem.run_pure,this]
   have hsb:(Instr.sliceBounds true (List.length (α:=dens cs) l) cap (lo.map a.eval) (hi.map a.eval) none).run P w= .ok (L,H,cap) w:=by
    cases lo with
    |none=>
     simp only[Apt,Option.some.injEq]at hla
     subst hla
     have hL0:L=0:=by simpa using hL.symm
     subst hL0
     cases hi with
     |none=>
      simp only[Apt,Option.some.injEq]at hhb
      subst hhb
      have:H=List.length (α:=dens cs) l:=by have:=hH.symm;simp at this;omega
      subst this
      simp[Instr.sliceBounds,Sem.run_bind,Sem.run_pure]
     |some ho'=>
      obtain⟨n,hn1,hn2⟩:=Ah hhb
      simp at hn2;subst hn2
      have e1:=(Wo hE hn1).1
      have:=hbound _ n cap H .sliceAcap e1 (by simpa using hH) (by omega)
      simp[Instr.sliceBounds,Sem.run_bind,Sem.run_pure,this]
    |some lo'=>
     obtain⟨m,hm1,hm2⟩:=Ah hla
     simp at hm2;subst hm2
     have e0:=(Wo hE hm1).1
     cases hi with
     |none=>
      simp only[Apt,Option.some.injEq]at hhb
      subst hhb
      have:H=List.length (α:=dens cs) l:=by have:=hH.symm;simp at this;omega
      subst this
      have b0:=hbound _ m (List.length (α:=dens cs) l) L .sliceB e0 (by simpa using hL) (by omega)
      simp[Instr.sliceBounds,Sem.run_bind,Sem.run_pure,b0]
     |some ho'=>
      obtain⟨n,hn1,hn2⟩:=Ah hhb
      simp at hn2;subst hn2
      have e1:=(Wo hE hn1).1
      have b1:=hbound _ n cap H .sliceAcap e1 (by simpa using hH) (by omega)
      have b0:=hbound _ m H L .sliceB e0 (by simpa using hL) (by omega)
      simp[Instr.sliceBounds,Sem.run_bind,Sem.run_pure,b1,b0]
   simp only[Instr.slice,hv,Sem.run_bind,Sem.run_pure,Result.andThen_ok,run_underlying hu w,hsb,Aw5 he1,he3,q0]
  have hlen:(((l:List (dens cs)).take H).drop L).length=H-L:=by simp;omega
  have part: ∀H':A9,RdD H' (.sl e cs) l (a.eval x)->RdD H' (.sl e cs) ((l:List (dens cs)).take H |>.drop L) (.slice (if cap=L then ad else ad.map (·.add (L*cs.length))) (H-L) (cap-L)):=fun H' hk=>by
   simp only[RdD]at hk ⊢
   obtain⟨ad',cap',hv',_,_,_,hel'⟩:=hk
   rw[hv]at hv'
   cases hv'
   refine⟨_,cap-L,by rw[hlen],by rw[hlen];omega,by omega,fun hn0=>?_,fun i d hd=>?_⟩
   .by_cases hcl:cap=L
    .omega
    .rw[if_neg hcl]at hn0
     cases ad with
     |none=>have:=hnil rfl;omega
     |some x=>simp at hn0
   .have hi:i<H-L:=by rw[<-hlen];exact(List.getElem?_eq_some_iff.1 hd).1
    rw[List.getElem?_drop,List.getElem?_take,if_pos (by omega)]at hd
    obtain⟨b,off,e1,e2⟩:=hel' _ _ hd
    subst e1
    have hcl: ¬cap=L:=by omega
    refine⟨b,off+L*cs.length,by rw[if_neg hcl];simp[Addr.add_mid],?_⟩
    rw[Nat.add_mul,<-Nat.add_assoc]at e2
    exact e2
  refine C9 (v:=.slice (if cap=L then ad else ad.map (·.add (L*cs.length))) (H-L) (cap-L)) (w':=w) ?_ (hn gh _ .none st _ w h rfl hM (Ext.refl _ _) rfl (show VR cx gh st (.v false [⟨.sl e cs,((l:List (dens cs)).take H).drop L,B12 tk e cs l (la.map Int.toNat)⟩]) _ from⟨⟨part gh.G hcr0,?_⟩,trivial⟩))
  .unfold execOp;rw[ho]
   simp only[Instr.sliceAt,Sem.run_bind,Sem.run_pure,Result.andThen_ok,run_underlying hu w,Option.map_none,hrun]
  .cases tk with
   |ro=>exact part cx.G0 htk
   |pin j=>exact part cx.G0 htk.1
   |nil=>
    obtain⟨a',ha'⟩:=htk e cs rfl
    exact part cx.G0 (A2z hcr0 ha' _)
   |own t=>
    have hlo:(la.map Int.toNat).getD 0=L:=by
     cases la with
     |none=>
      have h9:(0:Int)=(L:Int):=hL
      show 0=L
      omega
     |some n=>
      have h9:n=(L:Int):=hL
      show n.toNat=L
      omega
    refine⟨htk.1,fun ht=>?_⟩
    obtain⟨k1,k2,k3,k4,k5⟩:=htk.2 ht
    have k1':Bf (gh.F t) (.sl e cs) l (gh.V t):=k3▸k1
    refine⟨k1',by rw[<-k3];exact k2,k4,H,ad,List.length (α:=dens cs) l,cap,by rw[hlo];exact hLH,hHn,by rw[hlo],by rw[<-k3];exact hv,by rw[hlo]⟩
   |_=>trivial
 .cases h
end
end
section

def OCs (f:Ac):List Cl->List Value->Prop
 |[],[]=>True
 |x::xs,v::vs=>∃g h,Fb f [g,h]/\Bf g x.sh x.val v/\OCs h xs vs
 |_,_=>False
theorem OCs.sub: ∀ {xs:List Cl} {vs:List Value} {f g:Ac},OCs f xs vs->f.sub g->OCs g xs vs
 |[],[],_,_,_,_=>trivial
 |x::xs,v::vs,_,_,⟨p,q,h1,h2,h3⟩,hs=>⟨p,q,h1.sub hs,h2,h3⟩
 |[],_::_,_,_,h,_=>h.elim
 |_::_,[],_,_,h,_=>h.elim
theorem Fb.two {g h:Ac} (ha:g.apart h):Fb (g.join h) [g,h]:=Fb.cons ha (Fb.one h)
theorem Ar4 {s:Sh} {d:s.den} {v:Value} {G:A9} (h:RdD G s d v) (hn: ∀e cs,s= .sl e cs-> ∃a,v= .slice a 0 0):Bf Ac.emp s d v:=by
 cases s with
 |int k=>simpa only[RdD,Bf] using h
 |bool=>simpa only[RdD,Bf] using h
 |str=>simpa only[RdD,Bf] using h
 |junk=>simpa only[RdD,Bf] using h
 |sl e cs=>
  obtain⟨a,rfl⟩:=hn e cs rfl
  simp only[RdD]at h
  obtain⟨a',cap,hv,_⟩:=h
  have hl:List.length (α:=dens cs) d=0:=by injection hv with _ h2 _;exact h2.symm
  have hd:=List.eq_nil_of_length_eq_zero hl
  simp only[Bf]
  rw[hd]
  exact⟨[],Ac.emp,[],Dw.zero _ _ _ _,Fb.one _,Cd.nil _ _⟩
theorem Adf: ∀ {l m live live':List Nat},eat live (l++m)=some live'-> ∃l1,eat live l=some l1/\eat l1 m=some live'
 |[],m,live,live',h=>⟨live,rfl,h⟩
 |t::l,m,live,live',h=>by
  simp only[List.cons_append,eat]at h ⊢
  cases hc:live.contains t with
  |true=>rw[hc]at h;simpa using Adf h
  |false=>rw[hc]at h;cases h
theorem Vo: ∀ {l live live':List Nat},eat live l=some live'->live.Nodup->(∀t,t∈live'->t∈live)/\live'.Nodup
 |[],live,live',h,hn=>by simp[eat]at h;subst h;exact⟨fun _ h=>h,hn⟩
 |t::l,live,live',h,hn=>by
  simp only[eat]at h
  cases hc:live.contains t with
  |true=>
   rw[hc]at h
   obtain⟨h1,h2⟩:=Vo h (hn.erase _)
   exact⟨fun u hu=>List.mem_of_mem_erase (h1 u hu),h2⟩
  |false=>rw[hc]at h;cases h
theorem Dw.take {e sz:Nat} {f:Ac} {ad:Option Addr} {n m cap:Nat} {cells:List Value} (h:Dw e sz f (.slice ad m cap) n cells) {H:Nat} (hH:H<=n):
  Dw e sz f (.slice (if cap=0 then ad else ad.map (·.add (0*sz))) (H-0) (cap-0)) H (cells.take (H*sz)):=by
 obtain⟨h1,⟨⟨a,hE⟩,hz⟩|⟨g,cap',cur,hE,hg,hnc,hcm,hsz,htk⟩⟩:=h
 .cases hE
  have:H=0:=by omega
  subst this
  refine⟨by simp,.inl ⟨⟨ad,by simp⟩,rfl⟩⟩
 .cases hE
  have e0:(if cap=0 then(some ⟨g,0,none⟩:Option Addr)else(some ⟨g,0,none⟩:Option Addr).map (·.add (0*sz)))=some ⟨g,0,none⟩:=by
   split
   .rfl
   .simp[Addr.add_mid]
  rw[e0,Nat.sub_zero,Nat.sub_zero]
  refine⟨?_,.inr ⟨g,cap,cur,rfl,hg,by omega,hcm,hsz,?_⟩⟩
  .rw[List.length_take,h1,Nat.min_eq_left (Nat.mul_le_mul_right _ hH)]
  .rw[<-htk,List.take_take,Nat.min_eq_left (Nat.mul_le_mul_right _ hH)]
theorem Cd.take {α:Type} {sz:Nat} {own:Ac->List Value->α->Prop} {hs:List Ac} {css:List (List Value)} {l:List α} (h:Cd sz own hs css l) (H:Nat):Cd sz own (hs.take H) (css.take H) (l.take H):=by
 refine⟨by simp[h.1],by simp[h.2.1],fun i h' c' a' e1 e2 e3=>?_⟩
 rw[List.getElem?_take]at e1 e2 e3
 split at e1
 .rename_i hi
  rw[if_pos hi]at e2 e3
  exact h.2.2 i h' c' a' e1 e2 e3
 .cases e1
theorem Cd.drop {α:Type} {sz:Nat} {own:Ac->List Value->α->Prop} {hs:List Ac} {css:List (List Value)} {l:List α} (h:Cd sz own hs css l) (H:Nat):Cd sz own (hs.drop H) (css.drop H) (l.drop H):=by
 refine⟨by simp[h.1],by simp[h.2.1],fun i h' c' a' e1 e2 e3=>?_⟩
 rw[List.getElem?_drop]at e1 e2 e3
 exact h.2.2 _ h' c' a' e1 e2 e3
theorem Ub {sz:Nat}: ∀ {css:List (List Value)} {H:Nat},(∀c∈css,c.length=sz)->(css.take H).flatten=css.flatten.take (H*sz)
 |[],H,_=>by simp
 |c::r,0,_=>by simp
 |c::r,H+1,h=>by
  have hc:=h c (by simp)
  have ih:=Ub (css:=r) (H:=H) (fun d hd=>h d (by simp[hd]))
  simp only[List.take_succ_cons,List.flatten_cons,ih]
  rw[List.take_append,hc,Nat.succ_mul,Nat.add_sub_cancel]
  rw[List.take_of_length_le (l:=c) (by rw[hc];omega)]
theorem Bf.take {f:Ac} {e:Nat} {cs:List Sh} {l:List (dens cs)} {ad:Option Addr} {n cap:Nat} (h:Bf f (.sl e cs) l (.slice ad n cap)) {H:Nat} (hH:H<=l.length):
  Bf f (.sl e cs) (l.take H) (.slice (if cap=0 then ad else ad.map (·.add (0*cs.length))) (H-0) (cap-0)):=by
 simp only[Bf]at h ⊢
 obtain⟨css,r,hs,h1,h2,h3⟩:=h
 refine⟨css.take H,r,hs.take H,?_,⟨(List.pairwise_cons.2 ⟨fun x hx=>(List.pairwise_cons.1 h2.1).1 x (List.mem_of_mem_take hx),(List.pairwise_cons.1 h2.1).2.sublist (List.take_sublist _ _)⟩),fun g hg=>?_⟩,h3.take H⟩
 .rw[Ub h3.len,List.length_take,Nat.min_eq_left hH]
  exact h1.take hH
 .rcases List.mem_cons.1 hg with e|hg
  .exact h2.2 g (by simp[e])
  .exact h2.2 g (by simp[List.mem_of_mem_take hg])
theorem Aw6 {cx:Cx} {w:World} {gh:Gh} {st:St} (hM:RM cx gh st w) {x:Cl} {v:Value} {live live' e:List Nat} (hsub: ∀t,t∈live->t∈st.live) (hnd:live.Nodup) (hc:CR cx gh st x v) (h:Ss x=some e) (he:eat live e=some live'):
  ∃f,Bf f x.sh x.val v/\(∀t,t∈live'->t∈live)/\live'.Nodup/\ ∀b o,f b=some o-> ∃t,t∈live/\t∉live'/\gh.F t b=some o:=by
 unfold Ss at h
 split at h
 .rename_i _ cs d t
  simp at h;subst h
  simp only[eat]at he
  cases hct:live.contains t with
  |false=>rw[hct]at he;cases he
  |true=>
   rw[hct]at he
   simp at he;subst he
   have ht:t∈live:=by simpa using hct
   obtain⟨h1,h2,h3⟩:=hc
   obtain⟨h4,_⟩:=h3 (hsub t ht)
   exact⟨gh.F t,h4,fun u hu=>List.mem_of_mem_erase hu,hnd.erase _,fun b o hb=>⟨t,ht,fun hm=>(hnd.mem_erase_iff.1 hm).1 rfl,hb⟩⟩
 .rename_i _ cs d t
  simp at h;subst h
  simp only[eat]at he
  cases hct:live.contains t with
  |false=>rw[hct]at he;cases he
  |true=>
   rw[hct]at he
   simp at he;subst he
   have ht:t∈live:=by simpa using hct
   obtain⟨h1,h2,h3⟩:=hc
   exact⟨gh.F t,h3 (hsub t ht),fun u hu=>List.mem_of_mem_erase hu,hnd.erase _,fun b o hb=>⟨t,ht,fun hm=>(hnd.mem_erase_iff.1 hm).1 rfl,hb⟩⟩
 .rename_i t _ cs l
  simp at h;subst h
  simp only[eat]at he
  cases hct:live.contains t with
  |false=>rw[hct]at he;cases he
  |true=>
   rw[hct]at he
   simp at he;subst he
   have ht:t∈live:=by simpa using hct
   obtain⟨h1,h2,h3⟩:=hc
   obtain⟨q1,q2,q3,H,ad,n,cap,r1,r2,r3,r4,r5⟩:=h3 (hsub t ht)
   refine⟨gh.F t,?_,fun u hu=>List.mem_of_mem_erase hu,hnd.erase _,fun b o hb=>⟨t,ht,fun hm=>(hnd.mem_erase_iff.1 hm).1 rfl,hb⟩⟩
   have r3':=r3
   simp only[Option.getD_none,List.drop_zero]at r3' r5
   cases r3'
   rw[r4]at q1
   rw[r5]
   exact q1.take r2
 .rename_i _ cs d
  simp at h;subst h
  simp[eat]at he;subst he
  exact⟨Ac.emp,Ar4 hc.1 hc.2,fun _ h=>h,hnd,fun b o hb=>by cases hb⟩
 .cases h
 .rename_i h1 h9 h10 h2 h3
  simp at h;subst h
  simp[eat]at he;subst he
  refine⟨Ac.emp,Ar4 hc.1 (fun e cs hs=>?_),fun _ h=>h,hnd,fun b o hb=>by cases hb⟩
  exfalso
  obtain⟨sh,val,tok⟩:=x
  simp only at hs;subst hs
  cases tok with
  |own t=>exact h1 _ _ _ _ rfl
  |nst t=>exact h9 _ _ _ _ rfl
  |prt t e cs l lo=>cases lo with
   |none=>exact h10 _ _ _ _ _ _ _ rfl
   |some lo=>exact h3 _ _ _ _ rfl
  |nil=>exact h2 _ _ _ rfl
  |_=>exact h3 _ _ _ _ rfl
theorem Zv {cx:Cx} {w:World} {gh:Gh} {st:St} (hM:RM cx gh st w): ∀ {xs:List Cl} {vs:List Value} {live live' e:List Nat},(∀t,t∈live->t∈st.live)->live.Nodup->CRs cx gh st xs vs->T7 xs=some e->eat live e=some live'->
  ∃f,OCs f xs vs/\(∀t,t∈live'->t∈live)/\live'.Nodup/\ ∀b o,f b=some o-> ∃t,t∈live/\t∉live'/\gh.F t b=some o
 |[],[],live,live',e,hsub,hnd,_,h,he=>by
  simp[T7]at h;subst h
  simp[eat]at he;subst he
  exact⟨Ac.emp,trivial,fun _ h=>h,hnd,fun b o hb=>by cases hb⟩
 |x::xs,v::vs,live,live',e,hsub,hnd,hc,h,he=>by
  simp only[T7]at h
  obtain⟨e1,h1,h⟩:=Ah h
  obtain⟨e2,h2,h⟩:=Ah h
  simp at h;subst h
  obtain⟨l1,he1,he2⟩:=Adf he
  obtain⟨f1,o1,s1,n1,u1⟩:=Aw6 hM hsub hnd hc.1 h1 he1
  obtain⟨f2,o2,s2,n2,u2⟩:=Zv hM (fun t ht=>hsub t (s1 t ht)) n1 hc.2 h2 he2
  have hap:f1.apart f2:=fun b=>by
   cases e1:f1 b with
   |none=>exact .inl rfl
   |some o=>
    right
    cases e2:f2 b with
    |none=>rfl
    |some o'=>
     obtain⟨t,ht,ht',hF⟩:=u1 b o e1
     obtain⟨t2,hu,hu',hF'⟩:=u2 b o' e2
     have hne:t≠t2:=fun e=>ht' (e▸hu)
     rcases hM.apart t t2 (hsub t ht) (hsub t2 (s1 t2 hu)) hne b with h|h
     .rw[h]at hF;cases hF
     .rw[h]at hF';cases hF'
  refine⟨f1.join f2,⟨f1,f2,Fb.two hap,o1,o2⟩,fun t ht=>s1 t (s2 t ht),n2,fun b o hb=>?_⟩
  cases e1:f1 b with
  |some o'=>
   simp[Ac.join,e1]at hb;subst hb
   obtain⟨t,ht,ht',hF⟩:=u1 b _ e1
   exact⟨t,ht,fun hm=>ht' (s2 t hm),hF⟩
  |none=>
   simp[Ac.join,e1]at hb
   obtain⟨t,ht,ht',hF⟩:=u2 b _ hb
   exact⟨t,s1 t ht,ht',hF⟩
 |[],_::_,_,_,_,_,_,hc,_,_=>hc.elim
 |_::_,[],_,_,_,_,_,hc,_,_=>hc.elim
theorem A20 {s:Sh} {c:Cl} {d:s.den} (h:evS s c=some d): ∃e:c.sh=s,d=e▸c.val:=by
 unfold evS at h
 split at h
 .rename_i e;simp at h;exact⟨e,h.symm⟩
 .cases h
theorem OCs.dens: ∀ {cs:List Sh} {xs:List Cl} {vs:List Value} {f:Ac} {d:dens cs},OCs f xs vs->Akz cs xs=some d->By f cs d vs
 |[],[],[],_,_,_,_=>by simp only[By]
 |s::r,x::xs,v::vs,f,d,⟨g,h',h1,h2,h3⟩,h=>by
  simp only[Akz]at h
  obtain⟨a,ha,h⟩:=Ah h
  obtain⟨b,hb,h⟩:=Ah h
  simp at h;subst h
  obtain⟨e,he⟩:=A20 ha
  simp only[By]
  refine⟨v,vs,g,h',rfl,h1,?_,OCs.dens h3 hb⟩
  obtain⟨sh,val,tok⟩:=x
  simp only at e;subst e
  rw[he];exact h2
 |[],_::_,_,_,_,_,h=>by simp[Akz]at h
 |_::_,[],_,_,_,_,h=>by simp[Akz]at h
 |[],[],_::_,_,_,h,_=>h.elim
 |_::_,_::_,[],_,_,h,_=>h.elim
mutual
theorem Byq: ∀(s:Sh),Bf Ac.emp s s.zero (zv s)
 |s=>Ar4 (G:=fun _ _=>none) (A31 _ s).1 (A31 (fun _ _=>none) s).2
end
theorem Bhd: ∀(cs:List Sh),By Ac.emp cs (Ami cs) (cs.map zv)
 |[]=>by simp only[By];rfl
 |s::r=>by
  simp only[By]
  exact⟨zv s,r.map zv,Ac.emp,Ac.emp,rfl,⟨List.pairwise_cons.2 ⟨fun x hx=>Ac.apart_emp _ |> fun h=>by simp at hx;subst hx;exact h,List.pairwise_singleton _ _⟩,fun g hg=>by simp at hg;subst hg;exact Ac.sub_refl _⟩,Byq s,Bhd r⟩
theorem Cd.cons' {α:Type} {sz:Nat} {own:Ac->List Value->α->Prop} {hs:List Ac} {css:List (List Value)} {l:List α} (h:Cd sz own hs css l) {g:Ac} {c:List Value} {a:α} (hc:c.length=sz) (ho:own g c a):
  Cd sz own (g::hs) (c::css) (a::l):=by
 refine⟨by simp[h.1],by simp[h.2.1],fun i h' c' a' e1 e2 e3=>?_⟩
 cases i with
 |zero=>simp at e1 e2 e3;subst e1 e2 e3;exact⟨hc,ho⟩
 |succ i=>simp at e1 e2 e3;exact h.2.2 i h' c' a' e1 e2 e3
theorem Cd.rep {α:Type} {sz:Nat} {own:Ac->List Value->α->Prop} {c:List Value} {a:α} (hc:c.length=sz) (ho:own Ac.emp c a): ∀n,Cd sz own (List.replicate n Ac.emp) (List.replicate n c) (List.replicate n a)
 |0=>Cd.nil _ _
 |n+1=>(Cd.rep hc ho n).cons' hc ho
theorem Cd.app {α:Type} {sz:Nat} {own:Ac->List Value->α->Prop}: ∀ {hs hs':List Ac} {css css':List (List Value)} {l l':List α},Cd sz own hs css l->Cd sz own hs' css' l'->Cd sz own (hs++hs') (css++css') (l++l'):=by
 intro hs hs' css css' l l' h h'
 refine⟨by simp[h.1,h'.1],by simp[h.2.1,h'.2.1],fun i q c a e1 e2 e3=>?_⟩
 by_cases hi:i<l.length
 .rw[List.getElem?_append_left (by rw[h.2.1];exact hi)]at e1
  rw[List.getElem?_append_left (by rw[h.1];exact hi)]at e2
  rw[List.getElem?_append_left hi]at e3
  exact h.2.2 i q c a e1 e2 e3
 .rw[List.getElem?_append_right (by rw[h.2.1];omega),h.2.1]at e1
  rw[List.getElem?_append_right (by rw[h.1];omega),h.1]at e2
  rw[List.getElem?_append_right (by omega)]at e3
  exact h'.2.2 (i-l.length) q c a e1 e2 e3
theorem Bwj {z:Array Value} {c:List Value} (hz:z.toList=c) (hc:0<c.length) (n:Nat):(madeCells z (n*c.length)).toList=(List.replicate n c).flatten:=by
 apply List.ext_getElem?
 intro i
 have hzs:z.size=c.length:=by rw[<-hz];simp
 have hall: ∀x∈List.replicate n c,x.length=c.length:=fun x hx=>by rw[(List.mem_replicate.1 hx).2]
 by_cases hi:i<n*c.length
 .have h1:i/c.length<n:=Nat.div_lt_of_lt_mul (by rw[Nat.mul_comm];exact hi)
  have h2:i%c.length<c.length:=Nat.mod_lt _ hc
  have h3:=Ft hall (i:=i/c.length) (j:=i%c.length) (c:=c) (by rw[List.getElem?_replicate,if_pos h1]) h2
  rw[Nat.mul_comm,Nat.div_add_mod]at h3
  rw[h3]
  have h4:i%z.size<z.size:=by rw[hzs];exact h2
  simp[madeCells,hi,h4]
  rw[<-hz]
  simp[hzs,h2]
 .rw[List.getElem?_eq_none (by simp[madeCells];omega),List.getElem?_eq_none (by rw[Fg hall];simp;omega)]
end
section

theorem Bhe {ty:Tys} {nt:Nat} {T:Ty} {cx:Cx} {gh:Gh} {st:St} {a:Act} (hE:Env nt cx gh st a) (places:Nat->Option (Nat×Nat)) (hp: ∀i p,T.offs[i]? =some p->places i=some p):
  ∀(ps:List (Nat×Operand)) (cs cs':List Cl) (vs:List Value),CRs cx gh st cs vs->Pp T ty st cs ps=some cs'->
   ∃vs',Instr.fill places vs.toArray (ps.map fun x=>(x.1,a.eval x.2))=some (vs':List Value).toArray/\CRs cx gh st cs' vs'/\cs'.length=cs.length
 |[],cs,cs',vs,hc,h=>by
  simp[Pp]at h;subst h
  exact⟨vs,by simp[Instr.fill],hc,rfl⟩
 |(i,x)::r,cs,cs',vs,hc,h=>by
  simp only[Pp]at h
  obtain⟨p,hpo,h⟩:=Ah h
  obtain⟨xs,hx,h⟩:=Ah h
  obtain⟨hb,h⟩:=Bb h
  simp only[Bool.and_eq_true]at hb
  have hb1:=Nat.eq_of_beq_eq_true hb.1
  have hb2:=Nat.le_of_ble_eq_true hb.2
  have hcx:CRs cx gh st xs (a.eval x).cells.toList:=by
   split at hx
   .rename_i t _
    split at hx
    .rename_i ag ys hg
     simp at hx;subst hx
     have:=hE.2.2.1 t
     rw[hg]at this
     exact VRv.cells this
    .cases hx
   .rename_i c
    simpa [Act.eval,Value.cells] using Nt (cx:=cx) (g:=gh) (st:=st) hx
   .rename_i v hna
    have h1:=Nt (cx:=cx) (g:=gh) (st:=st) hx
    cases xs with
    |nil=>exact(h1:False).elim
    |cons y ys=>
     have e:=(Ja h1.1.1).2
     simp only[Act.eval,e];exact h1
   .cases hx
  have hlen:(a.eval x).cells.size=p.2:=by have:=hcx.len;rw[<-hb1,this];simp
  have hvl:=hc.len
  have hspl:((a.eval x).cells.zipIdx.foldl (fun cs (c,j)=>cs.setIfInBounds (p.1+j) c) vs.toArray)=(Bn vs p.1 (a.eval x).cells.toList).toArray:=by
   rw[<-Array.foldl_toList,Array.toList_zipIdx]
   obtain⟨g1,g2⟩:=Great.foldl_set p.1 (a.eval x).cells.toList 0 vs.toArray
   apply Array.ext_getElem?
   intro k
   rw[g2 k]
   simp only[Nat.add_zero,Array.length_toList,List.size_toArray,List.getElem?_toArray,Bn,hlen]
   by_cases hk:p.1<=k/\k<p.1+p.2
   .rw[if_pos ⟨hk.1,hk.2,by omega⟩]
    rw[List.getElem?_append_left (by simp[hlen];omega),List.getElem?_append_right (by simp;omega)]
    congr 1
    simp;omega
   .rw[if_neg (by omega)]
    rcases Nat.lt_or_ge k p.1 with hk'|hk'
    .rw[List.getElem?_append_left (by simp[hlen];omega),List.getElem?_append_left (by simp;omega),List.getElem?_take,if_pos hk']
    .rw[List.getElem?_append_right (by simp[hlen];omega),List.getElem?_drop]
     congr 1
     simp[hlen];omega
  obtain⟨vs',h1,h2,h3⟩:=Bhe hE places hp r _ cs' _ (hc.splice p.1 hcx) h
  refine⟨vs',?_,h2,?_⟩
  .simp only[List.map_cons]
   unfold Instr.fill
   rw[hp i p hpo]
   simp only
   rw[if_neg (by simp[hlen];omega),hspl]
   exact h1
  .rw[h3];simp[Bn];omega
theorem Ext.trans {g g' g'':Gh} {st st' st'':St} (h:Ext g st g' st') (k:Ext g' st' g'' st''):Ext g st g'' st'':=by
 refine⟨fun b o v e=>k.G _ _ _ (h.G _ _ _ e),fun b hb=>by rw[k.B b (h.nb b hb),h.B b hb],fun b hb=>k.nb b (h.nb b hb),fun t ht=>k.nxt t (h.nxt t ht),fun t ht hlt=>?_⟩
 obtain⟨a1,a2,a3,a4,a5⟩:=k.live t ht (h.nxt t hlt)
 obtain⟨b1,b2,b3,b4,b5⟩:=h.live t a1 hlt
 exact⟨b1,by rw[a2,b2],by rw[a3,b3],by rw[a4,b4],fun b o hs=>by rw[a5 b o (by rw[b2];exact hs),b5 b o hs]⟩
theorem Ak2 {d:Option Nat} {st st':St} {e:List Nat} {n:Nat} (h:(Ef.toks e [n]).app d st=some st'): ∃live',eat st.live e=some live'/\n∉st.used/\st'={st with live:=n::live',used:=n::st.used}:=by
 obtain⟨l,hl,h⟩:=Ah h
 obtain⟨u,hu,h⟩:=Ah h
 simp at h
 simp only[Xw]at hu
 cases hc:st.used.contains n with
 |true=>rw[hc]at hu;cases hu
 |false=>
  rw[hc]at hu
  simp at hu
  refine⟨l,hl,?_,by rw[<-h,<-hu]⟩
  intro hm
  rw[List.contains_iff_mem.2 hm]at hc;cases hc
theorem Vp {G:A9} {w:World} (h:Ez G w) {b:Nat} (hb:w.heap.size<=b) (o:Nat):G b o=none:=by
 cases hg:G b o with
 |none=>rfl
 |some x=>
  have:=h b o x hg
  unfold World.cell? at this
  simp only at this
  rw[Array.getElem?_eq_none hb]at this;cases this
theorem Bmm {cx:Cx} {w':World} {gh:Gh} {st:St} (hM:RM cx gh st w') {n:Nat} (hnew:n∉st.used) {live':List Nat} (hsub: ∀t,t∈live'->t∈st.live) (hnd:live'.Nodup) {f:Ac} (hl:Bu f w')
  (hf: ∀b o,f b=some o->(Fu cx b/\(∀t,t∈st.live->gh.F t b=none)/\ ∀k,st.has k=true->gh.B k≠b)\/ ∃t,t∈st.live/\t∉live'/\gh.F t b=some o) {U:A9} (u1:U.sub (B9 f)) (v:Value) (z:Nat):
  RM cx (gh.tk U n f v z) {st with live:=n::live',used:=n::st.used} w'/\Ext gh st (gh.tk U n f v z) {st with live:=n::live',used:=n::st.used}:=by
 obtain⟨M2,E2⟩:=hM.drop hsub hnd
 have hfrom: ∀b o,f b=some o->Fu cx b:=fun b o hb=>by
  rcases hf b o hb with h|⟨t,h1,_,h3⟩
  .exact h.1
  .exact(hM.tok t h1).2.2 b o h3
 have hap: ∀t,t∈live'->(gh.F t).apart f:=fun t ht b=>by
  cases e:f b with
  |none=>exact .inr rfl
  |some o=>
   left
   rcases hf b o e with h|⟨u,h1,h2,h3⟩
   .exact h.2.1 t (hsub t ht)
   .have hne:t≠u:=fun e=>h2 (e▸ht)
    rcases hM.apart t u (hsub t ht) h1 hne b with h|h
    .exact h
    .rw[h]at h3;cases h3
 have hbox: ∀k,st.has k=true->f (gh.B k)=none:=fun k hk=>by
  cases e:f (gh.B k)with
  |none=>rfl
  |some o=>
   rcases hf _ o e with h|⟨u,h1,h2,h3⟩
   .exact(h.2.2 k hk rfl).elim
   .rw[hM.tokBox u k h1 hk]at h3;cases h3
 obtain⟨M3,E3⟩:=M2.addTok (n:=n) hnew v z hl hfrom hap hbox u1
 exact⟨M3,E2.trans E3⟩
theorem A32 {cx:Cx} {w':World} {gh:Gh} {st:St} (hM:RM cx gh st w') {n:Nat} (hnew:n∉st.used) {live':List Nat} (hsub: ∀t,t∈live'->t∈st.live) (hnd:live'.Nodup) {f:Ac} (hl:Bu f w')
  (hf: ∀b o,f b=some o->(Fu cx b/\(∀t,t∈st.live->gh.F t b=none)/\ ∀k,st.has k=true->gh.B k≠b)\/ ∃t,t∈st.live/\t∉live'/\gh.F t b=some o) {s:Sh} (hsl:Ep s=true) {d:s.den} {v:Value} (hO:Bf f s d v)
  (hr:Ua gh.G (Kr s) v):
  ∃gh',RM cx gh' {st with live:=n::live',used:=n::st.used} w'/\Ext gh st gh' {st with live:=n::live',used:=n::st.used}/\CR cx gh' {st with live:=n::live',used:=n::st.used} ⟨s,d,.own n⟩ v/\
   gh'.B=gh.B/\(∀b,f b=none-> ∀o,gh'.G b o=gh.G b o)/\(gh'.F=fun t=>if t=n then f else gh.F t)/\gh'.V n=v:=by
 obtain⟨U,u1,u2,u3⟩:=hO.use
 obtain⟨M3,E3⟩:=Bmm hM hnew hsub hnd hl hf u1 v (Kr s)
 refine⟨_,M3,E3,⟨?_,?_⟩,rfl,fun b hb o=>?_,rfl,by simp[Gh.tk]⟩
 .refine RdD.sub (fun b o x hx=>?_) _ _ _ u2
  simp only[Gh.tk,Ij]
  cases hg:gh.G b o with
  |none=>simp[hx]
  |some y=>
   have h1:=hM.lies b o y hg
   have h2:=Bu.cell hl (u1 b o x hx)
   rw[h1]at h2
   simp[h2]
 .refine⟨by simp,fun _=>⟨by simpa [Gh.tk] using hO,fun b m cap hv hc o ho=>?_,by simp[Gh.tk],by simp[Gh.tk],hsl⟩⟩
  simp only[Gh.tk,Ij,hr b m cap hv hc o ho,u3 b m cap hv o ho];rfl
 .simp only[Gh.tk,Ij]
  have:U b o=none:=by
   cases hu:U b o with
   |none=>rfl
   |some x=>have:=u1 _ _ _ hu;unfold B9 Ac.cell at this;rw[hb]at this;cases this
  rw[this];simp
section
variable {P:Program} {g:Cfg} (hC:CfgOk P g) {cx:Cx} {gh:Gh} {st:St} {a:Act} {w:World} {nt:Nat} (hM:RM cx gh st w) (hE:Env nt cx gh st a)
 {o:Oper} {ρ:Type} {k:PV->Ef->Option ρ} {r:ρ} {next:Act->World->Prop} {Q:Exit->Act->World->Prop}
 (hk: ∀pv ef,k pv ef=some r-> ∃st',ef.app o.dst st=some st')
 (hn: ∀gh' pv ef st' v w',k pv ef=some r->ef.app o.dst st=some st'->RM cx gh' st' w'->Ext gh st gh' st'->st'.env=st.env->VR cx gh' st' pv v->next (a.put o.dst v) w')
include hC hM hE hk hn
theorem Byr {t:Nat} {ps:Array (Nat×Operand)} (ho:o.op= .build t ps) (h:(ob (g.ty t) fun T=>chk (T.agg && Nat.blt 0 T.offs.length) (ob (Pp T g.ty st (A2w T.shs) ps.toList) fun cs=>k (.v true cs) .none))=some r):o.wp P a w next Q:=by
 obtain⟨T,hT,h⟩:=Ah h
 obtain⟨hb,h⟩:=Bb h
 obtain⟨cs,hcs,h⟩:=Ah h
 simp only[Bool.and_eq_true]at hb
 have hlen:0<T.offs.length:=by
  have:=hb.2
  simp[Nat.blt]at this;omega
 have hok:=hC.ty t T hT
 obtain⟨i,z,d,h1,h2,h3,h4,h5,h6⟩:=hok.inf
 obtain⟨fs,hu,hpl⟩:=hok.bld hlen
 obtain⟨vs,hf,hcr,_⟩:=Bhe (ty:=g.ty) (T:=T) hE (T.offs.toArray[·]?) (fun i p hp=>by simpa using hp) ps.toList _ _ _ (A2y cx gh st T.shs) hcs
 refine C9 (v:=.agg vs.toArray) (w':=w) ?_ (hn gh _ .none st _ w h rfl hM (Ext.refl _ _) rfl (show VR cx gh st (.v true cs) _ from⟨vs,rfl,hcr⟩))
 unfold execOp;rw[ho]
 have hbuilt:P.built t (ps.map fun(i,x)=>(i,a.eval x)).toList=some vs.toArray:=by
  unfold Program.built
  simp only[h1,hu,h3,hpl]
  rw[<-h4]at hf
  simpa using hf
 simp only[Sem.run_bind,run_build w t _ _ hbuilt,Result.andThen_ok,Sem.run_pure]
theorem Bmn {t:Nat} {x y:Operand} (ho:o.op= .makeSlice t x y) (h:(ob (g.ty t) fun T=>ob (evI g.ty st g.int x) fun l=>ob (evI g.ty st g.int y) fun m=>
  match T.agg,T.shs with
  |false,[.sl e cs]=>chk (decide (0<=l)) (chk (decide (l<=4294967296)) (chk (decide (m=l))
    (ob o.dst fun n=>k (.v false [⟨.sl e cs,List.replicate l.toNat (Ami cs),.own (64*n)⟩]) (.toks [] [64*n]))))
  |_,_=>none)=some r):o.wp P a w next Q:=by
 obtain⟨T,hT,h⟩:=Ah h
 obtain⟨l,hl,h⟩:=Ah h
 obtain⟨m,hm,h⟩:=Ah h
 split at h
 .rename_i ag shs e cs hag hsh
  obtain⟨q1,h⟩:=Bb h
  obtain⟨q2,h⟩:=Bb h
  obtain⟨q3,h⟩:=Bb h
  simp only[decide_eq_true_eq]at q1 q2 q3
  subst q3
  obtain⟨dn,hdn,h⟩:=Ah h
  obtain⟨st',hst⟩:=hk _ _ h
  obtain⟨lv,he,hnew,hst2⟩:=Ak2 hst
  simp[eat]at he;subst he
  subst hst2
  obtain⟨n,rfl⟩:=Int.eq_ofNat_of_zero_le q1
  obtain⟨hu,z,by_,hR,hb2,hz⟩:=(hC.ty t T hT).sl e cs hag hsh
  rw[Int.toNat_natCast]at h
  have hlen:(cs.map zv).length=cs.length:=by simp
  have hG:=(Dc.refl w).alloc (.cells (madeCells z.cells (n*cs.length)) e)
  have hM':=hM.world hG
  have hlies:=Qw (heap_alloc_new w (.cells (madeCells z.cells (n*cs.length)) e))
  have hflat:=Bwj hz (by rw[hlen];exact hR.h0) n
  rw[hlen]at hflat
  have hO:Bf (Ac.one w.heap.size (.cells (madeCells z.cells (n*cs.length)) e)) (.sl e cs) (List.replicate n (Ami cs)) (.slice (some ⟨w.heap.size,0,none⟩) n n):=by
   simp only[Bf]
   refine⟨List.replicate n (cs.map zv),Ac.one w.heap.size (.cells (madeCells z.cells (n*cs.length)) e),List.replicate n Ac.emp,?_,?_,Cd.rep hlen (Bhd cs) n⟩
   .refine⟨by rw[<-hflat];simp[madeCells],.inr ⟨w.heap.size,n,_,by simp,Qx _ _,by simp,by unfold maxLen;omega,by simp[madeCells],?_⟩⟩
    rw[hflat,List.length_replicate]
    refine List.take_of_length_le (Nat.le_of_eq ?_)
    rw[Fg (sz:=cs.length) (fun x hx=>by rw[(List.mem_replicate.1 hx).2,hlen]),List.length_replicate]
   .refine⟨List.pairwise_cons.2 ⟨fun x hx=>by rw[(List.mem_replicate.1 hx).2];exact Ac.apart_emp _,List.pairwise_replicate.2 (.inr (Ac.apart_emp _))⟩,fun x hx=>?_⟩
    rcases List.mem_cons.1 hx with rfl|hx
    .exact Ac.sub_refl _
    .rw[(List.mem_replicate.1 hx).2];exact Ac.emp_sub _
  obtain⟨gh',M',E',C',_⟩:=A32 hM' hnew (live':=st.live) (fun t h=>h) hM.nodup hlies (s:=.sl e cs) (hsl:=rfl) (hf:=fun b o hb=>.inl (by
   have hbe:b=w.heap.size:=by
    simp only[Ac.one]at hb;split at hb
    .assumption
    .cases hb
   subst hbe
   refine⟨.inl hM.moved.size,fun t ht=>?_,fun k hk he=>?_⟩
   .cases hF:gh.F t w.heap.size with
    |none=>rfl
    |some x=>have:=(hM.tok t ht).2.1.lt _ _ hF;omega
   .obtain⟨vs,e',h1,_⟩:=hM.box k _ (Gd hk).choose_spec
    have:=(Array.getElem?_eq_some_iff.1 h1).1;omega)) (hO:=hO) (hr:=fun b n' cap hv hc o ho=>by cases hv;omega)
  refine C9 (v:=.slice (some ⟨w.heap.size,0,none⟩) n n) (w':=w.alloc (.cells (madeCells z.cells (n*cs.length)) e)) ?_ (hn gh' _ _ _ _ _ h hst M' E' rfl (show VR cx gh' _ (.v false [⟨.sl e cs,List.replicate n (Ami cs),.own (64*dn)⟩]) _ from⟨C',trivial⟩))
  unfold execOp;rw[ho]
  obtain⟨ie,hi1,hi2,hi3,hi4⟩:=hR.info
  have hrun:=run_make (P:=P) w t e ie z hu hi1 hi2 .i64 .i64 (n:Int) (n:Int) (by omega) (Int.le_refl _) (by
   rw[hi4]
   have:by_*n<=4096*4294967296:=Nat.mul_le_mul hb2 (by omega)
   have h2:((by_*n:Nat):Int)<=281474976710656:=by omega
   rw[Int.natCast_mul]at h2;exact h2) (by omega)
  simp only[Int.toNat_natCast,hi3]at hrun
  simp only[(Wo hE hl).1,(Wo hE hm).1,Sem.run_bind,hrun,Result.andThen_ok,Sem.run_pure]
 .cases h
end
end
section

theorem Ak3: ∀hs:List Ac,hs.Pairwise Ac.apart-> ∃f,Fb f hs/\ ∀b o,f b=some o-> ∃h,h∈hs/\h b=some o
 |[],_=>⟨Ac.emp,Fb.nil _,fun b o h=>by cases h⟩
 |g::r,hp=>by
  obtain⟨f,h1,h2⟩:=Ak3 r (List.pairwise_cons.1 hp).2
  have hap:g.apart f:=fun b=>by
   cases e:f b with
   |none=>exact .inr rfl
   |some o=>
    left
    obtain⟨h,hm,hb⟩:=h2 b o e
    rcases(List.pairwise_cons.1 hp).1 h hm b with h|h'
    .exact h
    .rw[h']at hb;cases hb
  refine⟨g.join f,Fb.cons hap h1,fun b o hb=>?_⟩
  cases e:g b with
  |some o'=>simp[Ac.join,e]at hb;subst hb;exact⟨g,by simp,e⟩
  |none=>simp[Ac.join,e]at hb;obtain⟨h,hm,hb⟩:=h2 b o hb;exact⟨h,by simp[hm],hb⟩
theorem Bmo {cx:Cx} {w:World} {gh:Gh} {st:St} {a:Act} {nt:Nat} (hM:RM cx gh st w) (hE:Env nt cx gh st a) {cs:List Sh}: ∀ {ps:List (Nat×Operand)} {k:Nat} {ds:List (dens cs)} {ate live':List Nat},Vk cs st k ps=some (ds,ate)->eat st.live ate=some live'->
  ∃(hs:List Ac),Cd cs.length (fun h c d=>By h cs d c) hs ((ps.map fun x=>a.eval x.2).map fun v=>v.cells.toList) ds/\hs.Pairwise Ac.apart/\(∀t,t∈live'->t∈st.live)/\live'.Nodup/\
   (∀h,h∈hs-> ∀b o,h b=some o-> ∃t,t∈st.live/\t∉live'/\gh.F t b=some o)/\(ps.map fun x=>(x.1,a.eval x.2))=((ps.map fun x=>a.eval x.2).zipIdx k).map (fun x=>(x.2,x.1))/\ ∀v∈(ps.map fun x=>a.eval x.2),v.oneCell'=true\/ ∃c,v= .agg c
 |[],k,ds,ate,live',h,he=>by
  simp[Vk]at h
  obtain⟨rfl,rfl⟩:=h
  simp[eat]at he;subst he
  exact⟨[],Cd.nil _ _,.nil,fun _ h=>h,hM.nodup,fun h hh=>(by cases hh),rfl,fun v hv=>(by cases hv)⟩
 |(i,x)::r,k,ds,ate,live',h,he=>by
  simp only[Vk]at h
  obtain⟨hi,h⟩:=Bb h
  have hi:=Nat.eq_of_beq_eq_true hi
  obtain⟨⟨ds',l1⟩,hr,h⟩:=Ah h
  obtain⟨xs,hx,h⟩:=Ah h
  obtain⟨d,hd,h⟩:=Ah h
  obtain⟨l2,hg,h⟩:=Ah h
  simp at h
  obtain⟨rfl,rfl⟩:=h
  obtain⟨lv,he1,he2⟩:=Adf he
  obtain⟨hs,e1,e2,e3,e4,e5,e6,e7⟩:=Bmo hM hE hr he1
  have hcx:CRs cx gh st xs (a.eval x).cells.toList/\((a.eval x).oneCell'=true\/ ∃c,a.eval x= .agg c):=by
   split at hx
   .rename_i t _ _
    split at hx
    .rename_i ag ys hgt
     simp at hx;subst hx
     have hv:=hE.2.2.1 t
     rw[hgt]at hv
     refine⟨VRv.cells hv,?_⟩
     cases ag with
     |true=>obtain⟨vs,e,_⟩:=hv;right;exact⟨_,e⟩
     |false=>
      cases ys with
      |nil=>exact(hv:False).elim
      |cons y ys=>left;exact(Ja (hv:CRs cx gh st (y::ys) [_]).1.1).1
    .cases hx
   .rename_i c _ _
    exact⟨by simpa [Act.eval,Value.cells] using Nt (cx:=cx) (g:=gh) (st:=st) hx,.inr ⟨c,rfl⟩⟩
   .rename_i v hna
    have h1:=Nt (cx:=cx) (g:=gh) (st:=st) hx
    cases xs with
    |nil=>exact(h1:False).elim
    |cons y ys=>
     have e:=Ja h1.1.1
     exact⟨by simp only[Act.eval,e.2];exact h1,.inl e.1⟩
   .cases hx
  obtain⟨f,o1,o2,o3,o4⟩:=Zv hM e3 e4 hcx.1 hg he2
  have hown:=o1.dens hd
  refine⟨f::hs,e1.cons' hown.len hown,List.pairwise_cons.2 ⟨fun h hh b=>?_,e2⟩,fun t ht=>e3 t (o2 t ht),o3,fun h hh b o hb=>?_,?_,?_⟩
  .cases ef:f b with
   |none=>exact .inl rfl
   |some o=>
    right
    cases eh:h b with
    |none=>rfl
    |some o'=>
     obtain⟨t,t1,t2,t3⟩:=o4 b o ef
     obtain⟨u,u1,u2,u3⟩:=e5 h hh b o' eh
     have hne:t≠u:=fun e=>u2 (e▸t1)
     rcases hM.apart t u (e3 t t1) u1 hne b with q|q
     .rw[q]at t3;cases t3
     .rw[q]at u3;cases u3
  .rcases List.mem_cons.1 hh with rfl|hh
   .obtain⟨t,t1,t2,t3⟩:=o4 b o hb
    exact⟨t,e3 t t1,t2,t3⟩
   .obtain⟨t,t1,t2,t3⟩:=e5 h hh b o hb
    exact⟨t,t1,fun hm=>t2 (o2 t hm),t3⟩
  .simp only[List.map_cons,List.zipIdx_cons,e6,hi]
  .intro v hv
   simp only[List.map_cons,List.mem_cons]at hv
   rcases hv with rfl|hv
   .exact hcx.2
   .exact e7 v hv
def J8 (G:A9):(cs:List Sh)->dens cs->List Value->Prop
 |[],_,c=>c=[]
 |s::r,d,c=>∃v t,c=v::t/\RdD G s d.1 v/\J8 G r d.2 t
theorem J8.len {G:A9}: ∀ {cs:List Sh} {d:dens cs} {c:List Value},J8 G cs d c->c.length=cs.length
 |[],_,_,h=>by simp only[J8]at h;simp[h]
 |s::r,d,c,h=>by
  simp only[J8]at h
  obtain⟨v,t,rfl,_,h2⟩:=h
  simp[J8.len h2]
theorem J8.one {G:A9}: ∀ {cs:List Sh} {d:dens cs} {c:List Value},J8 G cs d c-> ∀v∈c,v.oneCell'=true
 |[],_,_,h,v,hv=>by simp only[J8]at h;subst h;cases hv
 |s::r,d,c,h,v,hv=>by
  simp only[J8]at h
  obtain⟨u,t,rfl,h1,h2⟩:=h
  rcases List.mem_cons.1 hv with rfl|hv
  .exact(Ja h1).1
  .exact J8.one h2 v hv
theorem J8.rd {G H:A9} (hs:G.sub H): ∀ {cs:List Sh} {d:dens cs} {c:List Value} {b o:Nat},J8 G cs d c->(∀j v,c[j]? =some v->H b (o+j)=some v)->Eo H cs d b o
 |[],_,_,_,_,_,_=>by simp only[Eo]
 |s::r,d,c,b,o,h,hc=>by
  simp only[J8]at h
  obtain⟨v,t,rfl,h1,h2⟩:=h
  simp only[Eo]
  exact⟨⟨v,by simpa using hc 0 v rfl,RdD.sub hs _ _ _ h1⟩,J8.rd hs h2 (fun j u hu=>by have:=hc (j+1) u (by simpa using hu);rw[show o+1+j=o+(j+1) by omega];exact this)⟩
theorem J8.of {G:A9}: ∀ {cs:List Sh} {d:dens cs} {b o:Nat},Eo G cs d b o-> ∃c,J8 G cs d c/\ ∀j v,c[j]? =some v->G b (o+j)=some v
 |[],_,_,_,_=>⟨[],by simp only[J8],fun j v h=>by simp at h⟩
 |s::r,d,b,o,h=>by
  simp only[Eo]at h
  obtain⟨⟨v,h1,h2⟩,h3⟩:=h
  obtain⟨c,h4,h5⟩:=J8.of h3
  refine⟨v::c,by simp only[J8];exact⟨v,c,rfl,h2,h4⟩,fun j u hu=>?_⟩
  cases j with
  |zero=>simp at hu;subst hu;simpa using h1
  |succ j=>simp at hu;rw[show o+(j+1)=o+1+j by omega];exact h5 j u hu
def Nu (G:A9) (cs:List Sh) (css:List (List Value)) (l:List (dens cs)):Prop:=css.length=l.length/\ ∀(i:Nat) c d,css[i]? =some c->l[i]? =some d->J8 G cs d c
theorem Nu.len {G:A9} {cs:List Sh} {css:List (List Value)} {l:List (dens cs)} (h:Nu G cs css l): ∀c∈css,c.length=cs.length:=fun c hc=>by
 obtain⟨i,hi⟩:=List.getElem?_of_mem hc
 have hlt:i<l.length:=by rw[<-h.1];exact(List.getElem?_eq_some_iff.1 hi).1
 exact(h.2 i c _ hi (List.getElem?_eq_getElem hlt)).len
theorem Nu.one {G:A9} {cs:List Sh} {css:List (List Value)} {l:List (dens cs)} (h:Nu G cs css l): ∀u∈css.flatten,u.oneCell'=true:=fun u hu=>by
 obtain⟨c,hc,hu⟩:=List.mem_flatten.1 hu
 obtain⟨i,hi⟩:=List.getElem?_of_mem hc
 have hlt:i<l.length:=by rw[<-h.1];exact(List.getElem?_eq_some_iff.1 hi).1
 exact(h.2 i c _ hi (List.getElem?_eq_getElem hlt)).one u hu
theorem Nu.app {G:A9} {cs:List Sh} {css css':List (List Value)} {l l':List (dens cs)} (h:Nu G cs css l) (h':Nu G cs css' l'):Nu G cs (css++css') (l++l'):=by
 refine⟨by simp[h.1,h'.1],fun i c d e1 e2=>?_⟩
 by_cases hi:i<l.length
 .rw[List.getElem?_append_left (by rw[h.1];exact hi)]at e1
  rw[List.getElem?_append_left hi]at e2
  exact h.2 i c d e1 e2
 .rw[List.getElem?_append_right (by rw[h.1];omega),h.1]at e1
  rw[List.getElem?_append_right (by omega)]at e2
  exact h'.2 _ c d e1 e2
theorem Nu.rd {G H:A9} (hs:G.sub H) {cs:List Sh} {css:List (List Value)} {l:List (dens cs)} (h:Nu G cs css l) {b n cap e:Nat} (hn:n=l.length) (hc:n<=cap) (hm:cap<=maxLen) (hH: ∀j v,css.flatten[j]? =some v->H b j=some v):
  RdD H (.sl e cs) l (.slice (some ⟨b,0,none⟩) n cap):=by
 simp only[RdD]
 refine⟨some ⟨b,0,none⟩,cap,by rw[hn],by omega,hm,fun ha=>(by cases ha),fun i d hd=>⟨b,0,rfl,?_⟩⟩
 have hi:i<l.length:=(List.getElem?_eq_some_iff.1 hd).1
 have hic:i<css.length:=by rw[h.1];exact hi
 have h1:=h.2 i _ d (List.getElem?_eq_getElem hic) hd
 refine h1.rd hs (fun j v hv=>?_)
 have hj:j<cs.length:=by have:=(List.getElem?_eq_some_iff.1 hv).1;have:=h1.len;omega
 rw[Nat.zero_add]
 exact hH _ v (by rw[Ft h.len (List.getElem?_eq_getElem hic) hj];exact hv)
theorem Bqi {cx:Cx} {g:Gh} {st:St}: ∀ {cs:List Sh} {xs:List Cl} {vs:List Value} {d:dens cs},CRs cx g st xs vs->Akz cs xs=some d->J8 g.G cs d vs
 |[],[],[],_,_,_=>by simp only[J8]
 |s::r,x::xs,v::vs,d,h1,h=>by
  simp only[Akz]at h
  obtain⟨a,ha,h⟩:=Ah h
  obtain⟨b,hb,h⟩:=Ah h
  simp at h;subst h
  obtain⟨e,he⟩:=A20 ha
  simp only[J8]
  refine⟨v,vs,rfl,?_,Bqi h1.2 hb⟩
  have hr:=h1.1.1
  obtain⟨sh,val,tok⟩:=x
  simp only at e;subst e
  rw[he];exact hr
 |[],_::_,_,_,_,h=>by simp[Akz]at h
 |_::_,[],_,_,_,h=>by simp[Akz]at h
 |[],[],_::_,_,h,_=>h.elim
 |_::_,_::_,[],_,h,_=>h.elim
theorem Bhf {cx:Cx} {gh:Gh} {st:St} {a:Act} {nt:Nat} (hE:Env nt cx gh st a) {cs:List Sh}: ∀ {ps:List (Nat×Operand)} {k:Nat} {ds:List (dens cs)},Pq cs st k ps=some ds->
  Nu gh.G cs ((ps.map fun x=>a.eval x.2).map fun v=>v.cells.toList) ds/\(ps.map fun x=>(x.1,a.eval x.2))=((ps.map fun x=>a.eval x.2).zipIdx k).map (fun x=>(x.2,x.1))
 |[],k,ds,h=>by
  simp[Pq]at h
  subst h
  exact⟨⟨rfl,fun i c d h=>by simp at h⟩,rfl⟩
 |(i,x)::r,k,ds,h=>by
  simp only[Pq]at h
  obtain⟨hi,h⟩:=Bb h
  have hi:=Nat.eq_of_beq_eq_true hi
  obtain⟨ds',hr,h⟩:=Ah h
  obtain⟨xs,hx,h⟩:=Ah h
  obtain⟨d,hd,h⟩:=Ah h
  simp at h
  subst h
  obtain⟨e1,e6⟩:=Bhf hE hr
  have hcx:CRs cx gh st xs (a.eval x).cells.toList:=by
   split at hx
   .rename_i t _ _
    split at hx
    .rename_i ag ys hgt
     simp at hx;subst hx
     have hv:=hE.2.2.1 t
     rw[hgt]at hv
     exact VRv.cells hv
    .cases hx
   .rename_i c _ _
    simpa [Act.eval,Value.cells] using Nt (cx:=cx) (g:=gh) (st:=st) hx
   .rename_i v hna _ _
    have h1:=Nt (cx:=cx) (g:=gh) (st:=st) hx
    cases xs with
    |nil=>exact(h1:False).elim
    |cons y ys=>
     have e:=Ja h1.1.1
     simp only[Act.eval,e.2];exact h1
   .cases hx
  have hrc:=Bqi hcx hd
  refine⟨⟨by simp[<-e1.1],fun j c d' h1 h2=>?_⟩,by simp only[List.map_cons,List.zipIdx_cons,e6,hi]⟩
  cases j with
  |zero=>simp at h1 h2;subst h1 h2;exact hrc
  |succ j=>simp at h1 h2;exact e1.2 j c d' (by simpa using h1) h2
theorem Es {cx:Cx} {w:World} {gh:Gh} {st:St} (hM:RM cx gh st w) {b:Nat} (hb:w.heap.size<=b):Fu cx b/\(∀t,t∈st.live->gh.F t b=none)/\ ∀k,st.has k=true->gh.B k≠b:=by
 refine⟨.inl (Nat.le_trans hM.moved.size hb),fun t ht=>?_,fun k hk he=>?_⟩
 .cases hF:gh.F t b with
  |none=>rfl
  |some x=>have:=(hM.tok t ht).2.1.lt _ _ hF;omega
 .obtain⟨vs,e',h1,_⟩:=hM.box k _ (Gd hk).choose_spec
  have:=(Array.getElem?_eq_some_iff.1 h1).1;omega
theorem Bcb {P:Program} {w:World} {t e n:Nat} {cs:List Sh} {vs:List Value} {ps:Array (Nat×Value)} {ie:TypeInfo} {z:Value} (hu:P.underlying t=some (.slice e)) (hi1:P.info? e=some ie) (hi2:ie.zero=some z) (hi3:ie.size=cs.length) (h0:0<cs.length) (h1:cs.length<=4096)
  (hb2:n<=4096) (hlen: ∀v∈vs,v.cells.toList.length=cs.length) (hn:vs.length=n) (he6:ps.toList=(vs.zipIdx 0).map fun x=>(x.2,x.1)):
  ∃C:Array Value,(Instr.buildSlice t n ps).run P w= .ok (.slice (some ⟨w.heap.size,0,none⟩) n n) (w.alloc (.cells C e))/\C.toList=(vs.map fun v=>v.cells.toList).flatten:=by
 by_cases hn0:n=0
 .subst hn0
  have hvs:vs=[]:=List.eq_nil_of_length_eq_zero hn
  subst hvs
  have hps:ps= #[]:=by apply Array.toList_inj.1;simpa using he6
  subst hps
  refine⟨#[],?_,by simp⟩
  have hr0:Array.range 0= #[]:=rfl
  simp[Instr.buildSlice,run_underlying hu,sizeOf,typeInfo,hi1,Instr.fill,newRow,hr0]
 .refine⟨_,run_buildSlice w t e n _ _ ie z hu hi1 hi2 (by
    rw[hi3]
    have h2:n*cs.length<=4096*4096:=Nat.mul_le_mul hb2 h1
    omega) (by rw[hi3];have:=Nat.mul_pos (Nat.pos_of_ne_zero hn0) h0;omega) (by
    have hw:=Great.fill_whole (s:=cs.length) h0 vs ((Array.range (n*ie.size)).map (z.cells[· %z.cells.size]!)) (fun v hv=>by simpa using hlen v hv) (by simp[hn,hi3])
    rw[hi3]
    rw[hi3]at hw
    rw[he6]
    exact hw),?_⟩
  simp[List.flatMap_def]
section
variable {P:Program} {g:Cfg} (hC:CfgOk P g) {cx:Cx} {gh:Gh} {st:St} {a:Act} {w:World} {nt:Nat} (hM:RM cx gh st w) (hE:Env nt cx gh st a)
 {o:Oper} {ρ:Type} {k:PV->Ef->Option ρ} {r:ρ} {next:Act->World->Prop} {Q:Exit->Act->World->Prop}
 (hk: ∀pv ef,k pv ef=some r-> ∃st',ef.app o.dst st=some st')
 (hn: ∀gh' pv ef st' v w',k pv ef=some r->ef.app o.dst st=some st'->RM cx gh' st' w'->Ext gh st gh' st'->st'.env=st.env->VR cx gh' st' pv v->next (a.put o.dst v) w')
include hC hM hE hk hn
theorem Bi4 {t n:Nat} {ps:Array (Nat×Operand)} (ho:o.op= .buildSlice t n ps) (h:(ob (g.ty t) fun T=>match T.agg,T.shs with
  |false,[.sl e cs]=>cond (Lj st ps.toList)
    (ob (Vk cs st 0 ps.toList) fun p=>chk (Nat.beq ps.size n && Nat.ble n 4096)
     (ob o.dst fun n=>k (.v false [⟨.sl e cs,p.1,.own (64*n)⟩]) (.toks p.2 [64*n])))
    (ob (Pq cs st 0 ps.toList) fun p=>chk (Nat.beq ps.size n && Nat.ble n 4096)
     (ob o.dst fun n=>k (.v false [⟨.sl e cs,p,.row (64*n)⟩]) (.toks [] [64*n])))
  |_,_=>none)=some r):o.wp P a w next Q:=by
 obtain⟨T,hT,h⟩:=Ah h
 split at h
 .rename_i ag shs e cs hag hsh
  cases hcg:Lj st ps.toList with
  |true=>
   rw[hcg]at h
   simp only[cond_true]at h
   obtain⟨⟨ds,ate⟩,hel,h⟩:=Ah h
   obtain⟨hb,h⟩:=Bb h
   obtain⟨dn,hdn,h⟩:=Ah h
   obtain⟨st',hst⟩:=hk _ _ h
   obtain⟨live',heat,hnewt,hst2⟩:=Ak2 hst
   subst hst2
   simp only[Bool.and_eq_true]at hb
   have hb1:=Nat.eq_of_beq_eq_true hb.1
   have hb2:=Nat.le_of_ble_eq_true hb.2
   obtain⟨hu,z,by_,hR,hb3,hz⟩:=(hC.ty t T hT).sl e cs hag hsh
   obtain⟨ie,hi1,hi2,hi3,hi4⟩:=hR.info
   obtain⟨hs,e1,e2,e3,e4,e5,e6,e7⟩:=Bmo hM hE hel heat
   have hdn:ds.length=n:=by rw[<-e1.1];simp[hb1]
   have h0:=hR.h0
   have hflat:(((ps.toList.map fun x=>a.eval x.2).map fun v=>v.cells.toList).flatten).length=n*cs.length:=by
    rw[Fg e1.len];simp[hb1]
   have hnew:=Es hM (Nat.le_refl w.heap.size)
   have hrun:=Bcb (P:=P) (w:=w) (t:=t) (e:=e) (n:=n) (cs:=cs) (vs:=ps.toList.map fun x=>a.eval x.2) (ps:=ps.map fun(i,x)=>(i,a.eval x)) hu hi1 hi2 hi3 h0 ((hC.ty t T hT).sml e cs hag hsh) hb2 (fun v hv=>e1.len _ (List.mem_map_of_mem hv)) (by simp[hb1]) (by rw[<-e6];simp)
   obtain⟨C,hrun,hCl⟩:=hrun
   have hsz:C.size=n*cs.length:=by rw[<-hflat,<-hCl];simp
   obtain⟨f,hf1,hf2⟩:=Ak3 (Ac.one w.heap.size (.cells C e)::hs) (List.pairwise_cons.2 ⟨fun h hh b=>by
    by_cases hbe:b=w.heap.size
    .right
     subst hbe
     cases eh:h w.heap.size with
     |none=>rfl
     |some o'=>obtain⟨t,t1,t2,t3⟩:=e5 h hh _ o' eh;rw[hnew.2.1 t t1]at t3;cases t3
    .left;simp[Ac.one,hbe],e2⟩)
   have hO:Bf f (.sl e cs) ds (.slice (some ⟨w.heap.size,0,none⟩) n n):=by
    simp only[Bf]
    refine⟨_,Ac.one w.heap.size (.cells C e),hs,⟨by rw[hflat,hdn],.inr ⟨w.heap.size,n,C,by rw[hdn],Qx _ _,by omega,by unfold maxLen;omega,hsz,?_⟩⟩,hf1,e1⟩
    rw[hCl];exact List.take_of_length_le (by rw[hflat,hdn];exact Nat.le_refl _)
   have hM':=hM.world ((Dc.refl w).alloc (.cells C e))
   have hlies:Bu f (w.alloc (.cells C e)):=fun b o hb=>by
    obtain⟨h,hm,hb⟩:=hf2 b o hb
    rcases List.mem_cons.1 hm with rfl|hm
    .exact Qw (heap_alloc_new w _) b o hb
    .obtain⟨t,t1,t2,t3⟩:=e5 h hm b o hb
     exact(hM'.tok t t1).2.1 b o t3
   obtain⟨gh',M',E',C',_⟩:=A32 hM' hnewt e3 e4 hlies (s:=.sl e cs) (hsl:=rfl) (hf:=fun b o hb=>by
    obtain⟨h,hm,hb⟩:=hf2 b o hb
    rcases List.mem_cons.1 hm with rfl|hm
    .left
     have hbe:b=w.heap.size:=by
      simp only[Ac.one]at hb;split at hb
      .assumption
      .cases hb
     subst hbe;exact hnew
    .right;exact e5 h hm b o hb) (hO:=hO) (hr:=fun b n' cap hv hc o ho=>by cases hv;omega)
   refine C9 (v:=.slice (some ⟨w.heap.size,0,none⟩) n n) ?_ (hn gh' _ _ _ _ _ h hst M' E' rfl (show VR cx gh' _ (.v false [⟨.sl e cs,ds,.own (64*dn)⟩]) _ from⟨C',trivial⟩))
   unfold execOp;rw[ho]
   simp only[Sem.run_bind,hrun,Result.andThen_ok,Sem.run_pure]
  |false=>
   rw[hcg]at h
   simp only[cond_false]at h
   obtain⟨ds,hel,h⟩:=Ah h
   obtain⟨hb,h⟩:=Bb h
   obtain⟨dn,hdn,h⟩:=Ah h
   obtain⟨st',hst⟩:=hk _ _ h
   obtain⟨live',heat,hnewt,hst2⟩:=Ak2 hst
   simp[eat]at heat;subst heat
   subst hst2
   simp only[Bool.and_eq_true]at hb
   have hb1:=Nat.eq_of_beq_eq_true hb.1
   have hb2:=Nat.le_of_ble_eq_true hb.2
   obtain⟨hu,z,by_,hR,hb3,hz⟩:=(hC.ty t T hT).sl e cs hag hsh
   obtain⟨ie,hi1,hi2,hi3,hi4⟩:=hR.info
   obtain⟨e1,e6⟩:=Bhf hE hel
   have hdn:ds.length=n:=by rw[<-e1.1];simp[hb1]
   have h0:=hR.h0
   have hflat:(((ps.toList.map fun x=>a.eval x.2).map fun v=>v.cells.toList).flatten).length=n*cs.length:=by
    rw[Fg e1.len];simp[hb1]
   have hnew:=Es hM (Nat.le_refl w.heap.size)
   have hrun:=Bcb (P:=P) (w:=w) (t:=t) (e:=e) (n:=n) (cs:=cs) (vs:=ps.toList.map fun x=>a.eval x.2) (ps:=ps.map fun(i,x)=>(i,a.eval x)) hu hi1 hi2 hi3 h0 ((hC.ty t T hT).sml e cs hag hsh) hb2 (fun v hv=>e1.len _ (List.mem_map_of_mem hv)) (by simp[hb1]) (by rw[<-e6];simp)
   obtain⟨C,hrun,hCl⟩:=hrun
   have hsz:C.size=n*cs.length:=by rw[<-hflat,<-hCl];simp
   have hM':=hM.world ((Dc.refl w).alloc (.cells C e))
   have hblk:(w.alloc (.cells C e)).heap[w.heap.size]? =some (.cells C e):=heap_alloc_new w _
   obtain⟨M',E'⟩:=Bmm hM' hnewt (live':=st.live) (fun _ h=>h) hM.nodup (f:=Ac.one w.heap.size (.cells C e)) (Qw hblk) (fun b o hb=>.inl (by
    have hbe:b=w.heap.size:=by
     simp only[Ac.one]at hb;split at hb
     .assumption
     .cases hb
    subst hbe;exact hnew)) (U:=B9 (Ac.one w.heap.size (.cells C e))) (fun _ _ _ h=>h) (.slice (some ⟨w.heap.size,0,none⟩) n n) cs.length
   refine C9 (v:=.slice (some ⟨w.heap.size,0,none⟩) n n) ?_ (hn _ _ _ _ _ _ h hst M' E' rfl (show VR cx _ _ (.v false [⟨.sl e cs,ds,.row (64*dn)⟩]) _ from⟨⟨?_,?_⟩,trivial⟩))
   .unfold execOp;rw[ho]
    simp only[Sem.run_bind,hrun,Result.andThen_ok,Sem.run_pure]
   .refine e1.rd (Vn _ _) hdn.symm (Nat.le_refl _) (by unfold maxLen;omega) (fun j v hv=>?_)
    simp only[Gh.tk,Ij]
    rw[Vp hM.lies (Nat.le_refl _) j]
    rw[<-hCl]at hv
    simpa [B9,Ac.cell,Qx] using hv
   .refine⟨by simp,fun _=>⟨⟨e,cs,n,C.toList,rfl,⟨by simp[hsz],.inr ⟨w.heap.size,n,C,by rfl,by simp[Gh.tk,Qx],by omega,by unfold maxLen;omega,hsz,?_⟩⟩⟩,fun b n' cap hv hc o ho=>by cases hv;omega,by simp[Gh.tk],by simp[Gh.tk,Kr],rfl⟩⟩
    exact List.take_of_length_le (by simp[hsz])
 .cases h
end
end
section

theorem Apv {P:Program} (w:World) (t ty e:TypeId) (i:TypeInfo) (z:Value) (sz:Nat) (ht:P.underlying t=some (.slice e)) (hi:P.info? e=some i) (hz:i.zero=some z) (hsz:i.size=sz)
  (hzs:z.cells.size=sz) (h0:0<sz) {f:Ac} {s:Value} {ad:Option Addr} {n m c:Nat} {xs news:List Value} (hs:Dw e sz f s n xs) (hf:Bu f w)
  (hnews: ∀j u,news[j]? =some u-> ∃b o,ad=some ⟨b,o,none⟩/\w.cell? ⟨b,o+j,none⟩=some u)
  (hl:news.length=m*sz) (h1: ∀u∈news,u.oneCell'=true) (h63:n+m<=maxLen) (hb:(n+m)*i.bytes<=140737488355328):
  ∃v' w' f',(Builtin.append_ #[t,t] ty #[s,.slice ad m c]).run P w= .ok v' w'/\Dw e sz f' v' (n+m) (xs++news)/\Bu f' w'/\
   ((w'=w/\f'=f/\v'=s/\m=0)\/
    (∃b C D cap,s= .slice (some ⟨b,0,none⟩) n cap/\n<cap/\v'= .slice (some ⟨b,0,none⟩) (n+m) cap/\f b=some (.cells C e (0,0))/\w'=w.setRow b D/\(∀i,i<n*sz->D[i]? =C[i]?)/\f'=Ac.one b (.cells D e (0,0)))\/
    (∃b D cap,Dc w w'/\b=w.heap.size/\v'= .slice (some ⟨b,0,none⟩) (n+m) cap/\f'=Ac.one b (.cells D e (0,0)))):=by
 subst hsz
 have hsmall:n+m<=9223372036854775807:=by simp only[maxLen]at h63;omega
 by_cases hm:m=0
 .subst hm
  have hn:news=[]:=List.eq_nil_of_length_eq_zero (by simpa using hl)
  subst hn
  have hform: ∃a cap,s= .slice a n cap/\n<=cap:=by
   rcases hs.2 with⟨⟨a,rfl⟩,rfl⟩|⟨b,cap,cur,rfl,_,h3,_⟩
   .exact⟨a,0,rfl,Nat.le_refl _⟩
   .exact⟨_,cap,rfl,h3⟩
  obtain⟨a,cap,rfl,hcap⟩:=hform
  refine⟨.slice a n cap,w,f,?_,by simpa using hs,hf,.inl ⟨rfl,rfl,rfl,rfl⟩⟩
  cases ad<;>cases a<;>simp[Builtin.append_,run_underlying ht,sizeOf,typeInfo,hi,Builtin.lenOf,Builtin.firstCells,hcap,loadCells,loadCellsFrom,storeCells]
 .have hpos:0<news.length:=by rw[hl];exact Nat.mul_pos (by omega) h0
  obtain⟨gb,go,had,_⟩:=hnews 0 (news[0]'hpos) (by simp)
  subst had
  have hnews': ∀j u,news[j]? =some u->w.cell? ((⟨gb,go,none⟩:Addr).add j)=some u:=fun j u hu=>by
   obtain⟨b,o,e,hc⟩:=hnews j u hu
   cases e
   rw[Addr.add_mid];exact hc
  rcases hs.2 with⟨⟨a,rfl⟩,rfl⟩|⟨b,cap,cur,rfl,hgb,hnc,hcap,hcs,htake⟩
  .have hxs:xs=[]:=List.eq_nil_of_length_eq_zero (by simpa using hs.1)
   subst hxs
   have hr:(Builtin.append_ #[t,t] ty #[.slice a 0 0,.slice (some ⟨gb,go,none⟩) m c]).run P w=
     .ok (.slice (some ⟨w.heap.size,0,none⟩) (0+m) (grownCap w (0+m) 0 e)) (w.drew.alloc (.cells (([]:List Value).toArray++news.toArray++Builtin.zeroCells z.cells (grownCap w (0+m) 0 e-(0+m))) e)):=by
    cases a with
    |none=>
     have:=run_append_nil (P:=P) w t ty e i z ht hi hz ⟨gb,go,none⟩ m c news hl hnews' (by omega) (by omega) (by have hb:=hb;simp only[Nat.zero_add]at hb;omega)
     simpa using this
    |some ad=>
     exact run_append_grow (P:=P) w t ty e i z ht hi hz ad 0 0 [] (by simp) (by simp) ⟨gb,go,none⟩ m c news hl hnews' (by omega) (by omega) (growslice_fits (by omega) hb)
   exact⟨_,_,_,hr,Ab2 w e i.size z hzs [] news 0 m (0+m) 0 (by simp) hl rfl h63,Qw (heap_alloc_new w.drew _),.inr (.inr ⟨_,_,_,(Dc.refl w).drew.alloc _,rfl,rfl,rfl⟩)⟩
  .by_cases hroom:n+m<=cap
   .have hfit:n*i.size+news.length<=cur.size:=by rw[hl,hcs,<-Nat.add_mul];exact Nat.mul_le_mul_right _ hroom
    have hr:=run_append_room (P:=P) w t ty e i ht hi b n cap cur (hf b _ hgb) ⟨gb,go,none⟩ m c news hl hnews' h1 hroom hfit
    have hlen:(xs++news).length=(n+m)*i.size:=by rw[List.length_append,hs.1,hl,Nat.add_mul]
    refine⟨_,_,_,hr,⟨hlen,.inr ⟨b,cap,_,rfl,Qx _ _,hroom,hcap,?_,?_⟩⟩,Qw (setRow_heap w b cur _ e _ (hf b _ hgb)),.inr (.inl ⟨b,cur,_,cap,rfl,by omega,rfl,hgb,rfl,fun j hj=>?_,rfl⟩)⟩
    .simp only[List.size_toArray,List.length_append,List.length_take,List.length_drop,Array.length_toList]
     omega
    .rw[htake,<-hlen]
     exact List.take_left
    .have hle:n*i.size<=cur.size:=by omega
     simp only[List.getElem?_toArray]
     rw[List.append_assoc,List.getElem?_append_left (by simp;omega),List.getElem?_take,if_pos hj]
     simp
   .have holds: ∀j u,xs[j]? =some u->w.cell? ((⟨b,0,none⟩:Addr).add j)=some u:=fun j u hu=>by
     rw[Addr.add_mid,cell_of_row w b _ cur e (0,0) (hf b _ hgb),Nat.zero_add]
     rw[<-htake,List.getElem?_take]at hu
     split at hu
     .simpa using hu
     .cases hu
    have hr:=run_append_grow (P:=P) w t ty e i z ht hi hz ⟨b,0,none⟩ n cap xs hs.1 holds ⟨gb,go,none⟩ m c news hl hnews' (by omega) (by omega) (growslice_fits (by omega) hb)
    exact⟨_,_,_,hr,Ab2 w e i.size z hzs xs news n m (n+m) cap hs.1 hl rfl h63,Qw (heap_alloc_new w.drew _),.inr (.inr ⟨_,_,_,(Dc.refl w).drew.alloc _,rfl,rfl,rfl⟩)⟩
theorem Bcc {G:A9}: ∀ {cs:List Sh} {d:dens cs} {b o:Nat},Ab5 cs=true->Eo G cs d b o-> ∃c:List Value,(∀j v,c[j]? =some v->G b (o+j)=some v)/\By Ac.emp cs d c
 |[],d,b,o,_,_=>⟨[],fun j v h=>by simp at h,by simp only[By]⟩
 |s::r,d,b,o,hf,h=>by
  simp only[Eo]at h
  obtain⟨⟨v,h1,h2⟩,h3⟩:=h
  have hs: ∀e c,s≠ .sl e c:=fun e c he=>by subst he;simp[Ab5]at hf
  have hfr:Ab5 r=true:=by cases s<;>simp_all [Ab5]
  obtain⟨c,h4,h5⟩:=Bcc hfr h3
  refine⟨v::c,fun j u hu=>?_,?_⟩
  .cases j with
   |zero=>simp at hu;subst hu;simpa using h1
   |succ j=>simp at hu;rw[show o+(j+1)=o+1+j by omega];exact h4 j u hu
  .simp only[By]
   exact⟨v,c,Ac.emp,Ac.emp,rfl,⟨List.pairwise_cons.2 ⟨fun x hx=>by simp at hx;subst hx;exact Ac.apart_emp _,List.pairwise_singleton _ _⟩,fun g hg=>by simp at hg;subst hg;exact Ac.sub_refl _⟩,Ar4 h2 (fun e c he=>(hs e c he).elim),h5⟩
theorem Aw7 {G:A9} {cs:List Sh} (hf:Ab5 cs=true): ∀ {l:List (dens cs)} {b o:Nat},(∀(i:Nat) d,l[i]? =some d->Eo G cs d b (o+i*cs.length))->
  ∃css,Cd cs.length (fun h c d=>By h cs d c) (List.replicate l.length Ac.emp) css l/\ ∀j v,css.flatten[j]? =some v->G b (o+j)=some v
 |[],b,o,_=>⟨[],Cd.nil _ _,fun j v h=>by simp at h⟩
 |d::r,b,o,h=>by
  obtain⟨c,h1,h2⟩:=Bcc hf (h 0 d rfl)
  obtain⟨css,h3,h4⟩:=Aw7 hf (l:=r) (b:=b) (o:=o+cs.length) (fun i d hd=>by
   have:=h (i+1) d (by simpa using hd)
   rw[Nat.succ_mul]at this
   rw[show o+cs.length+i*cs.length=o+(i*cs.length+cs.length) by omega];exact this)
  refine⟨c::css,h3.cons' h2.len h2,fun j v hv=>?_⟩
  simp only[List.flatten_cons]at hv
  by_cases hj:j<c.length
  .rw[List.getElem?_append_left hj]at hv
   have:=h1 j v hv
   simpa using this
  .rw[List.getElem?_append_right (by omega)]at hv
   have:=h4 _ v hv
   rw[h2.len]at this
   rw[show o+cs.length+(j-cs.length)=o+j by have:=h2.len;omega]at this
   exact this
end
section

theorem By.one: ∀ {cs:List Sh} {f:Ac} {d:dens cs} {c:List Value},By f cs d c-> ∀v∈c,v.oneCell'=true
 |[],_,_,_,h,v,hv=>by simp only[By]at h;subst h;cases hv
 |s::r,f,d,c,h,v,hv=>by
  simp only[By]at h
  obtain⟨u,t,g,h',rfl,_,h1,h2⟩:=h
  rcases List.mem_cons.1 hv with rfl|hv
  .exact(Ja (Bf.rdIn s g d.1 _ (B9 g) h1 (fun _ _ _ hx _=>hx))).1
  .exact By.one h2 v hv
theorem Bhg {cs:List Sh} {hs:List Ac} {css:List (List Value)} {l:List (dens cs)} (h:Cd cs.length (fun h c d=>By h cs d c) hs css l): ∀u∈css.flatten,u.oneCell'=true:=by
 intro u hu
 obtain⟨c,hc,hu⟩:=List.mem_flatten.1 hu
 obtain⟨i,hi⟩:=List.getElem?_of_mem hc
 have hlt:i<l.length:=by rw[<-h.1];exact(List.getElem?_eq_some_iff.1 hi).1
 exact(h.2.2 i _ c _ (List.getElem?_eq_getElem (by rw[h.2.1];exact hlt)) hi (List.getElem?_eq_getElem hlt)).2.one u hu
theorem Bqj {G:A9} {e:Nat} {cs:List Sh} {l:List (dens cs)} {v:Value} (h:RdD G (.sl e cs) l v): ∃css ad cap,Nu G cs css l/\v= .slice ad l.length cap/\ ∀j u,css.flatten[j]? =some u-> ∃b o,ad=some ⟨b,o,none⟩/\G b (o+j)=some u:=by
 simp only[RdD]at h
 obtain⟨ad,cap,hv,_,_,_,hel⟩:=h
 have key: ∀(k:List (dens cs)) (s:Nat),(∀i d,k[i]? =some d->l[s+i]? =some d)-> ∃css,Nu G cs css k/\ ∀j u,css.flatten[j]? =some u-> ∃b o,ad=some ⟨b,o,none⟩/\G b (o+s*cs.length+j)=some u:=by
  intro k
  induction k with
  |nil=>intro s _;exact⟨[],⟨rfl,fun i c d h=>by simp at h⟩,fun j u h=>by simp at h⟩
  |cons d k ih=>
   intro s hk
   obtain⟨b,o,hE,hrd⟩:=hel s d (by simpa using hk 0 d rfl)
   obtain⟨c,h1,h2⟩:=J8.of hrd
   obtain⟨css,h3,h4⟩:=ih (s+1) (fun i d' hd=>by have:=hk (i+1) d' (by simpa using hd);rw[show s+1+i=s+(i+1) by omega];exact this)
   refine⟨c::css,⟨by simp[h3.1],fun i c' d' e1 e2=>?_⟩,fun j u hu=>?_⟩
   .cases i with
    |zero=>simp at e1 e2;subst e1 e2;exact h1
    |succ i=>simp at e1 e2;exact h3.2 i c' d' e1 e2
   .simp only[List.flatten_cons]at hu
    by_cases hj:j<c.length
    .rw[List.getElem?_append_left hj]at hu
     exact⟨b,o,hE,h2 j u hu⟩
    .rw[List.getElem?_append_right (by omega)]at hu
     obtain⟨b',o',hE',hG⟩:=h4 _ u hu
     refine⟨b',o',hE',?_⟩
     rw[h1.len]at hG
     have hlen:=h1.len
     rw[Nat.succ_mul,show o'+(s*cs.length+cs.length)+(j-cs.length)=o'+s*cs.length+j by omega]at hG
     exact hG
 obtain⟨css,h1,h2⟩:=key l 0 (fun i d hd=>by simpa using hd)
 refine⟨css,ad,cap,h1,hv,fun j u hu=>?_⟩
 obtain⟨b,o,h3,h4⟩:=h2 j u hu
 exact⟨b,o,h3,by simpa using h4⟩
theorem Bwk {G H:A9} (hs:G.sub H) {e:Nat} {cs:List Sh} {css:List (List Value)} {l:List (dens cs)} (h:Nu G cs css l) {f:Ac} {v:Value} (hO:Dw e cs.length f v l.length css.flatten)
  (hH: ∀b n cap o x,v= .slice (some ⟨b,0,none⟩) n cap->o<n*cs.length->B9 f b o=some x->H b o=some x):RdD H (.sl e cs) l v:=by
 obtain⟨hl,⟨⟨a,rfl⟩,hz⟩|⟨b,cap,cur,rfl,hg,hnc,hcm,hsz,htk⟩⟩:=hO
 .have:l=[]:=List.eq_nil_of_length_eq_zero hz
  subst this
  simp only[RdD]
  exact⟨a,0,by simp,by simp,by simp,fun _=>rfl,fun i d hd=>by simp at hd⟩
 .refine h.rd hs rfl hnc hcm (fun j u hj=>hH b _ cap j u rfl ?_ ?_)
  .have:=(List.getElem?_eq_some_iff.1 hj).1
   rw[hl]at this;exact this
  .unfold B9 Ac.cell
   rw[hg]
   rw[<-htk,List.getElem?_take]at hj
   split at hj
   .simpa using hj
   .cases hj
section
variable {P:Program} {g:Cfg} (hC:CfgOk P g) {cx:Cx} {gh:Gh} {st:St} {a:Act} {w:World} {nt:Nat} (hM:RM cx gh st w) (hE:Env nt cx gh st a)
 {o:Oper} {ρ:Type} {k:PV->Ef->Option ρ} {r:ρ} {next:Act->World->Prop} {Q:Exit->Act->World->Prop}
 (hk: ∀pv ef,k pv ef=some r-> ∃st',ef.app o.dst st=some st')
 (hn: ∀gh' pv ef st' v w',k pv ef=some r->ef.app o.dst st=some st'->RM cx gh' st' w'->Ext gh st gh' st'->st'.env=st.env->VR cx gh' st' pv v->next (a.put o.dst v) w')
include hC hM hE hk hn
theorem Btq {x y:Operand} {t:Nat} (ho:o.op= .call {callee:=.builtin .append,args:= #[x,y],argTypes:= #[t,t]}) {T:Ty} {e0 e' dn:Nat} {c0:List Sh} {l m:List (dens c0)} {ctok dtok:Tok} {at1 live':List Nat} {st':St}
  (hag:T.agg=false) (hsh:T.shs=[.sl e0 c0]) (hT:g.ty t=some T) (hcc:CR cx gh st ⟨.sl e0 c0,l,ctok⟩ (a.eval x)) (hcd:CR cx gh st ⟨.sl e' c0,m,dtok⟩ (a.eval y)) (hb1:Aw4 ctok=some at1)
  (hbd:List.length (α:=dens c0) l+List.length (α:=dens c0) m<=4294967296) (hp1:(Agq c0 ctok ⟨.sl e' c0,m,dtok⟩).1=true)
  (h:k (.v false [⟨.sl e0 c0,(l++m:List (dens c0)),cond (Agq c0 ctok ⟨.sl e' c0,m,dtok⟩).1 (.row (64*dn)) (.own (64*dn))⟩]) (.toks (at1++(Agq c0 ctok ⟨.sl e' c0,m,dtok⟩).2) [64*dn])=some r)
  (hst:(Ef.toks (at1++(Agq c0 ctok ⟨.sl e' c0,m,dtok⟩).2) [64*dn]).app o.dst st=some {st with live:=(64*dn)::live',used:=(64*dn)::st.used})
  (heat:eat st.live (at1++(Agq c0 ctok ⟨.sl e' c0,m,dtok⟩).2)=some live') (hnewt:(64*dn)∉st.used):o.wp P a w next Q:=by
 have hp2:(Agq c0 ctok ⟨.sl e' c0,m,dtok⟩).2=[]:=by
  revert hp1
  unfold Agq
  cases isRow ctok with
  |true=>intro _;rfl
  |false=>cases Ab5 c0 with
   |true=>intro h;cases h
   |false=>cases hgv:Ss ⟨.sl e' c0,m,dtok⟩with
    |some q=>simp
    |none=>simp
 rw[hp1,hp2]at h
 rw[hp2]at hst heat
 simp only[List.append_nil,cond_true]at h heat hst
 obtain⟨hu,z,by_,hR,hb2,hz⟩:=(hC.ty t T hT).sl e0 c0 hag hsh
 obtain⟨ie,hi1,hi2,hi3,hi4⟩:=hR.info
 have hbase: ∃fb cells,Dw e0 c0.length fb (a.eval x) (List.length (α:=dens c0) l) cells/\Ua gh.G c0.length (a.eval x)/\(∀t,t∈live'->t∈st.live)/\live'.Nodup/\
   ∀b ob,fb b=some ob-> ∃t,t∈st.live/\t∉live'/\gh.F t b=some ob:=by
  obtain⟨hrd,htk⟩:=hcc
  have heat1: ∀t',at1=[t']->t'∈st.live/\(∀t,t∈live'->t∈st.live)/\live'.Nodup/\t'∉live':=fun t' he=>by
   subst he
   simp only[eat]at heat
   cases hct:st.live.contains t' with
   |false=>rw[hct]at heat;cases heat
   |true=>
    rw[hct]at heat
    simp at heat;subst heat
    exact⟨by simpa using hct,fun u hu=>List.mem_of_mem_erase hu,hM.nodup.erase _,fun hm=>(hM.nodup.mem_erase_iff.1 hm).1 rfl⟩
  cases ctok with
  |own t'=>
   simp[Aw4]at hb1
   obtain⟨h1,h2,h3,h4⟩:=heat1 t' hb1.symm
   obtain⟨q1,q2,q3,q4,q5⟩:=htk.2 h1
   simp only[Bf]at q1
   obtain⟨css,rw_,hs,r1,r2,r3⟩:=q1
   exact⟨rw_,_,r1,q2,h2,h3,fun b ob hb=>⟨t',h1,h4,r2.2 rw_ (by simp) b ob hb⟩⟩
  |row t'=>
   simp[Aw4]at hb1
   obtain⟨h1,h2,h3,h4⟩:=heat1 t' hb1.symm
   obtain⟨⟨e1,cs1,n1,cells,q0,q1⟩,q2,q3,q4,q5⟩:=htk.2 h1
   cases q0
   have hn1:n1=List.length (α:=dens c0) l:=by
    simp only[RdD]at hrd
    obtain⟨ad,cap,hv,_⟩:=hrd
    rw[hv]at q1
    obtain⟨_,⟨⟨a',hE⟩,hz⟩|⟨b',cap',cur,hE,_⟩⟩:=q1
    .injection hE with _ e2 _;rw[hz,e2]
    .injection hE with _ e2 _;rw[e2]
   subst hn1
   exact⟨gh.F t',cells,q1,q2,h2,h3,fun b ob hb=>⟨t',h1,h4,hb⟩⟩
  |nil=>
   simp[Aw4]at hb1
   subst hb1
   simp[eat]at heat;subst heat
   obtain⟨a',ha'⟩:=htk _ _ rfl
   have hl0:List.length (α:=dens c0) l=0:=by
    simp only[RdD]at hrd
    obtain⟨ad,cap,hv,_⟩:=hrd
    rw[ha']at hv;injection hv with _ e2 _;exact e2.symm
   refine⟨Ac.emp,[],by rw[hl0,ha'];exact Dw.zero _ _ _ _,fun b n cap hv hlt=>by rw[ha']at hv;cases hv;omega,fun _ h=>h,hM.nodup,fun b ob hb=>by cases hb⟩
  |_=>cases hb1
 obtain⟨fb,cells,hrow0,hroom,s2,n2,u1⟩:=hbase
 have hliesb:Bu fb w:=fun b ob hb=>by
  obtain⟨t',t1,_,t3⟩:=u1 b ob hb
  exact(hM.tok t' t1).2.1 b ob t3
 have hrdx:RdD gh.G (.sl e0 c0) l (a.eval x):=hcc.1
 have hrdy:RdD gh.G (.sl e' c0) m (a.eval y):=hcd.1
 obtain⟨css,ad1,cap1,hrows1,hvx,hcells1⟩:=Bqj hrdx
 have hcells:cells=css.flatten:=by
  have hlen:cells.length=css.flatten.length:=by rw[hrow0.1,Fg hrows1.len,hrows1.1]
  apply List.ext_getElem?
  intro j
  rcases Nat.lt_or_ge j css.flatten.length with hj|hj
  .obtain⟨b,oo,hE,hG⟩:=hcells1 j _ (List.getElem?_eq_getElem hj)
   have hw1:=hM.lies _ _ _ hG
   have hrow1:=hrow0
   obtain⟨_,⟨⟨a',hE'⟩,hz'⟩|⟨b',cap',cur,hE',hg',_,_,_,htk'⟩⟩:=hrow1
   .have hh:=hrow0.1;rw[hz',Nat.zero_mul]at hh;omega
   .rw[hvx,hE]at hE'
    injection hE' with e1 _ _
    injection e1 with e1
    injection e1 with e2 e3 _
    subst e2
    rw[cell_of_row w b _ cur e0 (0,0) (hliesb _ _ hg'),e3,Nat.zero_add]at hw1
    rw[<-htk',List.getElem?_take,if_pos (by rw[<-hrow0.1,hlen];exact hj),List.getElem?_eq_getElem hj,<-hw1]
    simp
  .rw[List.getElem?_eq_none (by omega),List.getElem?_eq_none hj]
 subst hcells
 obtain⟨css2,ad2,cap2,hrows2,hvy,hcells2⟩:=Bqj hrdy
 obtain⟨v',w',f',hrun,hrow,hlf',hcases⟩:=Apv (P:=P) w t o.type e0 ie z c0.length hu hi1 hi2 hi3 hR.hz hR.h0 (c:=cap2) hrow0 hliesb (fun j u hj=>by
   obtain⟨b,oo,h1,h2⟩:=hcells2 j u hj
   exact⟨b,oo,h1,hM.lies _ _ _ h2⟩)
  (by rw[Fg hrows2.len,hrows2.1]) hrows2.one (by unfold maxLen;omega) (by
   rw[hi4]
   have:(List.length (α:=dens c0) l+List.length (α:=dens c0) m)*by_<=4294967296*4096:=Nat.mul_le_mul hbd hb2
   omega)
 have hnone: ∀b ob,fb b=some ob->Fu cx b/\(∀t,t∈live'->gh.F t b=none)/\ ∀k,st.has k=true->gh.B k≠b:=fun b ob hh=>by
  obtain⟨t',t1,t2,t3⟩:=u1 b ob hh
  refine⟨(hM.tok t' t1).2.2 b ob t3,fun q hq=>?_,fun k hk he=>?_⟩
  .have hne:q≠t':=fun e=>t2 (e▸hq)
   rcases hM.apart q t' (s2 q hq) t1 hne b with k1|k1
   .exact k1
   .rw[k1]at t3;cases t3
  .rw[<-he,hM.tokBox t' k t1 hk]at t3;cases t3
 have hf': ∀b ob,f' b=some ob->(∃ob',fb b=some ob')\/b=w.heap.size:=by
  intro b ob hb
  rcases hcases with⟨_,rfl,_,_⟩|⟨b',C,D,cap,_,_,_,hC',_,_,rfl⟩|⟨b',D,cap,_,hbw,_,rfl⟩
  .exact .inl ⟨ob,hb⟩
  .simp only[Ac.one]at hb
   split at hb
   .rename_i e;subst e;exact .inl ⟨_,hC'⟩
   .cases hb
  .simp only[Ac.one]at hb
   split at hb
   .rename_i e;subst e;exact .inr hbw
   .cases hb
 obtain⟨M1,E1⟩:=hM.drop (live:=live') s2 n2
 have hM2:RM cx gh {st with live:=live'} w':=by
  rcases hcases with⟨rfl,_⟩|⟨b',C,D,cap,hv,hnc,_,hC',rfl,hD,_⟩|⟨b',D,cap,hG,_⟩
  .exact M1
  .have hb:=hnone b' _ hC'
   have hblk:=hliesb b' _ hC'
   refine M1.setRow hblk hb.1 (fun oo vv hgv=>?_) hb.2.2 hb.2.1
   have hlt:oo<List.length (α:=dens c0) l*c0.length:=by
    rcases Nat.lt_or_ge oo (List.length (α:=dens c0) l*c0.length)with h|h
    .exact h
    .rw[hroom b' _ cap hv hnc oo h]at hgv;cases hgv
   rw[hD oo hlt]
   have:=hM.lies b' oo vv hgv
   rw[cell_of_row w b' oo C e0 (0,0) hblk]at this
   exact this
  .exact M1.world hG
 have hr':Ua gh.G c0.length v':=by
  rcases hcases with⟨_,_,rfl,hm0⟩|⟨b',C,D,cap,hv,hnc,hv',_,_,_,_⟩|⟨b',D,cap,hG,hbw,hv',_⟩
  .exact hroom
  .intro b n cp e hlt oo hoo
   rw[hv']at e;cases e
   refine hroom b' _ cap hv hnc oo (Nat.le_trans (Nat.mul_le_mul_right _ ?_) hoo)
   omega
  .intro b n cp e hlt oo hoo
   rw[hv']at e;cases e
   subst hbw
   exact Vp hM.lies (Nat.le_refl _) oo
 let U:A9:=fun b oo=>if oo<(List.length (α:=dens c0) l+List.length (α:=dens c0) m)*c0.length then B9 f' b oo else none
 have hU:U.sub (B9 f'):=fun b oo x hx=>by
  simp only[U]at hx
  split at hx
  .exact hx
  .cases hx
 obtain⟨M',E'⟩:=Bmm hM2 hnewt (live':=live') (fun _ h=>h) n2 hlf' (fun b ob hb=>.inl (by
  rcases hf' b ob hb with⟨ob',hb'⟩|rfl
  .exact hnone b ob' hb'
  .have:=Es hM (Nat.le_refl w.heap.size)
   exact⟨this.1,fun t ht=>this.2.1 t (s2 t ht),this.2.2⟩)) hU v' c0.length
 have hlenv: ∀b n cap,v'= .slice (some ⟨b,0,none⟩) n cap->n=List.length (α:=dens c0) l+List.length (α:=dens c0) m:=fun b n cap hv=>by
  obtain⟨_,⟨⟨a',hE⟩,hz⟩|⟨b',cap',cur,hE,_⟩⟩:=hrow
  .rw[hE]at hv;injection hv with _ e2 _;omega
  .rw[hE]at hv;injection hv with _ e2 _;exact e2.symm
 refine C9 (v:=v') (w':=w') ?_ (hn _ _ _ _ _ _ h hst M' (E1.trans E') rfl (show VR cx _ _ (.v false [⟨.sl e0 c0,(l++m:List (dens c0)),.row (64*dn)⟩]) _ from⟨⟨?_,?_⟩,trivial⟩))
 .unfold execOp;rw[ho]
  simp only[resolve,invoke,builtin,Sem.run_bind,Sem.run_pure,Result.andThen_ok,List.map_toArray,List.map_cons,List.map_nil,hvy,hrun]
 .refine Bwk (G:=gh.G) (Vn _ _) (css:=css++css2) (hrows1.app hrows2) (f:=f') (by rw[List.length_append,List.flatten_append];exact hrow) (fun b n cap oo x hE hlt hx=>?_)
  simp only[Gh.tk,Ij]
  have hw:=Bu.cell hlf' (b:=b) (o:=oo) hx
  cases hg:gh.G b oo with
  |some y=>
   have h1:=hM2.lies b oo y hg
   rw[h1]at hw
   simpa using hw
  |none=>
   simp only[Option.none_or,U]
   rw[if_pos,hx]
   rw[<-hlenv b n cap hE];exact hlt
 .refine⟨by simp,fun _=>⟨⟨e0,c0,_,_,rfl,by simpa [Gh.tk] using hrow⟩,fun b n cap hv hc oo hoo=>?_,by simp[Gh.tk],by simp[Gh.tk,Kr],rfl⟩⟩
  simp only[Gh.tk,Ij,hr' b n cap hv hc oo hoo,U,Option.none_or]
  rw[if_neg]
  have:=hlenv b n cap hv
  simp only[Kr]at hoo
  rw[this]at hoo
  omega
theorem Btr {x y:Operand} {t:Nat} (ho:o.op= .call {callee:=.builtin .append,args:= #[x,y],argTypes:= #[t,t]}) {T:Ty} {c d:Cl} {dn:Nat} (hT:g.ty t=some T) (hc:ev1 g.ty st t x=some c) (hd:ev1 g.ty st t y=some d) (hdn:o.dst=some dn)
  (h:Ade T (64*dn) c d (fun r ef=>k (.v false [r]) ef)=some r):o.wp P a w next Q:=by
  have hcc:=Kh hE hc
  have hcd:=Kh hE hd
  obtain⟨csh,cval,ctok⟩:=c
  obtain⟨dsh,dval,dtok⟩:=d
  unfold Ade at h
  split at h
  case h_2=>cases h
  case h_1 x1 y1 e cs l tx e' cs' m ty' he1 he2=>
  cases he1
  cases he2
  split at h
  case h_2=>cases h
  case h_1 ag shs e0 c0 hag hsh=>
  split at h
  case isFalse=>cases h
  case isTrue hcs=>
  subst hcs
  split at h
  case isFalse=>cases h
  case isTrue hc0=>
  subst hc0
  split at h
  case isFalse=>cases h
  case isTrue he0=>
  subst he0
  obtain⟨at1,hb1,h⟩:=Ah h
  obtain⟨hbd,h⟩:=Bb h
  simp only[decide_eq_true_eq]at hbd
  obtain⟨st',hst⟩:=hk _ _ h
  obtain⟨live',heat,hnewt,hst2⟩:=Ak2 hst
  subst hst2
  cases hp1:(Agq c0 ctok ⟨.sl e' c0,m,dtok⟩).1 with
  |true=>exact Btq (st':=st) hC hM hE hk hn ho hag hsh hT hcc hcd hb1 hbd hp1 h hst heat hnewt
  |false=>
  simp only[hp1,cond_false]at h
  obtain⟨live,heat1,heat2⟩:=Adf heat
  have hrow0:isRow ctok=false:=by
   cases hr:isRow ctok with
   |false=>rfl
   |true=>simp[Agq,hr]at hp1
  have hg1:Ss ⟨.sl e0 c0,l,ctok⟩=some at1:=by
   cases ctok with
   |own t=>exact hb1
   |nil=>exact hb1
   |row t=>cases hrow0
   |_=>cases hb1
  generalize hat2:(Agq c0 ctok ⟨.sl e' c0,m,dtok⟩).2=at2 at heat2
  have hg2:cond (Ab5 c0) (some []) (Ss ⟨.sl e' c0,m,dtok⟩)=some at2:=by
   rw[<-hat2]
   simp only[Agq,hrow0,cond_false]at hp1 ⊢
   cases hfl:Ab5 c0 with
   |true=>rfl
   |false=>
    simp only[hfl,cond_false]at hp1 ⊢
    cases hgv:Ss ⟨.sl e' c0,m,dtok⟩with
    |some q=>rfl
    |none=>rw[hgv]at hp1;cases hp1
  obtain⟨fb,hO,s1,n1,u1⟩:=Aw6 hM (fun _ h=>h) hM.nodup hcc hg1 heat1
  have hroom:Ua gh.G c0.length (a.eval x):=by
   obtain⟨_,h2⟩:=hcc
   cases ctok with
   |nil=>
    obtain⟨ad,he⟩:=h2 _ _ rfl
    intro b n cap hv hlt
    rw[he]at hv;cases hv;omega
   |own t'=>
    simp only at h2
    refine(h2.2 ?_).2.1
    simp[Ss]at hg1
    subst hg1
    simp only[eat]at heat1
    cases hct:st.live.contains t' with
    |true=>simpa using hct
    |false=>rw[hct]at heat1;cases heat1
   |nst t'=>cases hb1
   |prt _ _ _ _ _=>cases hb1
   |_=>cases hg1
  have hsrc: ∃(css:List (List Value)) (hs:List Ac) (ad:Option Addr) (cap:Nat),a.eval y= .slice ad (List.length (α:=dens c0) m) cap/\Cd c0.length (fun h c d=>By h c0 d c) hs css m/\hs.Pairwise Ac.apart/\
    (∀h,h∈hs-> ∀b o,h b=some o-> ∃t,t∈live/\t∉live'/\gh.F t b=some o)/\(∀t,t∈live'->t∈live)/\live'.Nodup/\
    ∀j u,css.flatten[j]? =some u-> ∃b o,ad=some ⟨b,o,none⟩/\w.cell? ⟨b,o+j,none⟩=some u:=by
   cases hfl:Ab5 c0 with
   |true=>
    rw[hfl]at hg2
    simp at hg2;subst hg2
    simp[eat]at heat2;subst heat2
    have hrd:=hcd.1
    simp only[RdD]at hrd
    obtain⟨ad,cap,hv,_,_,_,hel⟩:=hrd
    by_cases hm0:List.length (α:=dens c0) m=0
    .have:m=[]:=List.eq_nil_of_length_eq_zero hm0
     subst this
     exact⟨[],[],ad,cap,hv,Cd.nil _ _,.nil,fun h hh=>(by cases hh),fun _ h=>h,n1,fun j u hu=>by simp at hu⟩
    .obtain⟨b,o,had,_⟩:=hel 0 _ (List.getElem?_eq_getElem (by omega))
     subst had
     obtain⟨css,e1,e2⟩:=Aw7 (G:=gh.G) hfl (l:=m) (b:=b) (o:=o) (fun i d hd=>by
      obtain⟨b',o',e,h⟩:=hel i d hd
      cases e;exact h)
     refine⟨css,List.replicate (List.length (α:=dens c0) m) Ac.emp,some ⟨b,o,none⟩,cap,hv,e1,List.pairwise_replicate.2 (.inr (Ac.apart_emp _)),fun h hh b o hb=>?_,fun _ h=>h,n1,fun j u hu=>⟨b,o,rfl,hM.lies _ _ _ (e2 j u hu)⟩⟩
     rw[(List.mem_replicate.1 hh).2]at hb;cases hb
   |false=>
    rw[hfl]at hg2
    simp only[cond_false]at hg2
    obtain⟨f,o1,o2,o3,o4⟩:=Zv hM s1 n1 (show CRs cx gh st [⟨.sl e' c0,m,dtok⟩] [a.eval y]from⟨hcd,trivial⟩) (e:=at2) (by simp[T7,ob,hg2]) heat2
    obtain⟨g1,g2,q1,q2,_⟩:=o1
    simp only[Bf]at q2
    obtain⟨css,rw_,hs,r1,r2,r3⟩:=q2
    obtain⟨ad,cap,hv,_,_,hcell⟩:=r1.rd
    have hsubf: ∀h,h∈rw_::hs->h.sub f:=fun h hh=>Ac.sub_trans (r2.2 h hh) (q1.2 g1 (by simp))
    refine⟨css,hs,ad,cap,hv,r3,(List.pairwise_cons.1 r2.1).2,fun h hh b o hb=>o4 b o (hsubf h (by simp[hh]) b o hb),o2,o3,fun j u hu=>?_⟩
    cases ad with
    |none=>rw[hcell.2]at hu;simp at hu
    |some ad=>
     obtain⟨b,o,sp⟩:=ad
     obtain⟨k1,k2⟩:=hcell j u hu
     simp only at k1;subst k1
     have hlf:Bu rw_ w:=fun b o hb=>by
      obtain⟨t,t1,_,t3⟩:=o4 b o (hsubf rw_ (by simp) b o hb)
      exact(hM.tok t (s1 t t1)).2.1 b o t3
     exact⟨b,o,rfl,hlf.cell k2⟩
  obtain⟨css2,hs2,ad,cap2,hv2,e2,p2,u2,s2,n2,news⟩:=hsrc
  simp only[Bf]at hO
  obtain⟨css,rw_,hs,r1,r2,r3⟩:=hO
  obtain⟨hu,z,by_,hR,hb2,hz⟩:=(hC.ty t T hT).sl e0 c0 hag hsh
  obtain⟨ie,hi1,hi2,hi3,hi4⟩:=hR.info
  have hliesb: ∀h,h∈rw_::hs->Bu h w:=fun h hh b o hb=>by
   obtain⟨t,t1,_,t3⟩:=u1 b o (r2.2 h hh b o hb)
   exact(hM.tok t t1).2.1 b o t3
  obtain⟨v',w',f',hrun,hrow,hlf',hcases⟩:=Apv (P:=P) w t o.type e0 ie z c0.length hu hi1 hi2 hi3 hR.hz hR.h0 (c:=cap2) r1 (hliesb rw_ (by simp)) news
   (by rw[Fg e2.len,e2.1]) (Bhg e2) (by unfold maxLen;omega) (by
    rw[hi4]
    have:(List.length (α:=dens c0) l+List.length (α:=dens c0) m)*by_<=4294967296*4096:=Nat.mul_le_mul hbd hb2
    omega)
  have hf': ∀b ob,f' b=some ob->(∃ob',rw_ b=some ob')\/b=w.heap.size:=by
   intro b ob hb
   rcases hcases with⟨_,rfl,_,_⟩|⟨b',C,D,cap,_,_,_,hC',_,_,rfl⟩|⟨b',D,cap,_,hbw,_,rfl⟩
   .exact .inl ⟨ob,hb⟩
   .simp only[Ac.one]at hb
    split at hb
    .rename_i e;subst e;exact .inl ⟨_,hC'⟩
    .cases hb
   .simp only[Ac.one]at hb
    split at hb
    .rename_i e;subst e;exact .inr hbw
    .cases hb
  have hcons: ∀b ob,(∃h,h∈rw_::hs/\h b=some ob)\/(∃h,h∈hs2/\h b=some ob)-> ∃t,t∈st.live/\t∉live'/\gh.F t b=some ob:=by
   rintro b ob (⟨h,hh,hb⟩|⟨h,hh,hb⟩)
   .obtain⟨t,t1,t2,t3⟩:=u1 b ob (r2.2 h hh b ob hb)
    exact⟨t,t1,fun hm=>t2 (s2 t hm),t3⟩
   .obtain⟨t,t1,t2,t3⟩:=u2 h hh b ob hb
    exact⟨t,s1 t t1,t2,t3⟩
  have hltc: ∀b ob,((∃h,h∈rw_::hs/\h b=some ob)\/(∃h,h∈hs2/\h b=some ob))->b<w.heap.size:=fun b ob hh=>by
   obtain⟨t,t1,_,t3⟩:=hcons b ob hh
   exact(hM.tok t t1).2.1.lt _ _ t3
  have hap12: ∀h,h∈rw_::hs-> ∀h2,h2∈hs2->h.apart h2:=fun h hh h2 hh2 b=>by
   cases e1:h b with
   |none=>exact .inl rfl
   |some o1=>
    right
    cases e2:h2 b with
    |none=>rfl
    |some o2=>
     obtain⟨t,t1,t2,t3⟩:=u1 b o1 (r2.2 h hh b o1 e1)
     obtain⟨q,q1,q2,q3⟩:=u2 h2 hh2 b o2 e2
     have hne:t≠q:=fun e=>t2 (e▸q1)
     rcases hM.apart t q t1 (s1 q q1) hne b with k1|k1
     .rw[k1]at t3;cases t3
     .rw[k1]at q3;cases q3
  have hapf: ∀h,h∈hs++hs2->f'.apart h:=fun h hh b=>by
   cases e1:f' b with
   |none=>exact .inl rfl
   |some o1=>
    right
    cases e2:h b with
    |none=>rfl
    |some o2=>
     exfalso
     rcases hf' b o1 e1 with⟨ob',hb'⟩|rfl
     .rcases List.mem_append.1 hh with hh|hh
      .rcases(List.pairwise_cons.1 r2.1).1 h hh b with k1|k1
       .rw[k1]at hb';cases hb'
       .rw[k1]at e2;cases e2
      .rcases hap12 rw_ (by simp) h hh b with k1|k1
       .rw[k1]at hb';cases hb'
       .rw[k1]at e2;cases e2
     .have:=hltc w.heap.size o2 (by
       rcases List.mem_append.1 hh with hh|hh
       .exact .inl ⟨h,by simp[hh],e2⟩
       .exact .inr ⟨h,hh,e2⟩)
      omega
  obtain⟨f,hf1,hf2⟩:=Ak3 (f'::(hs++hs2)) (List.pairwise_cons.2 ⟨hapf,List.pairwise_append.2 ⟨(List.pairwise_cons.1 r2.1).2,p2,fun h hh h2 hh2=>hap12 h (by simp[hh]) h2 hh2⟩⟩)
  have hO':Bf f (.sl e0 c0) (l++m:List (dens c0)) v':=by
   simp only[Bf]
   refine⟨css++css2,f',hs++hs2,?_,hf1,r3.app e2⟩
   rw[List.length_append,List.flatten_append]
   exact hrow
  obtain⟨M1,E1⟩:=hM.drop (live:=live') (fun t ht=>s1 t (s2 t ht)) n2
  have hnone: ∀b ob,((∃h,h∈rw_::hs/\h b=some ob)\/(∃h,h∈hs2/\h b=some ob))->Fu cx b/\(∀t,t∈live'->gh.F t b=none)/\ ∀k,st.has k=true->gh.B k≠b:=fun b ob hh=>by
   obtain⟨t,t1,t2,t3⟩:=hcons b ob hh
   refine⟨(hM.tok t t1).2.2 b ob t3,fun q hq=>?_,fun k hk he=>?_⟩
   .have hne:q≠t:=fun e=>t2 (e▸hq)
    rcases hM.apart q t (s1 q (s2 q hq)) t1 hne b with k1|k1
    .exact k1
    .rw[k1]at t3;cases t3
   .rw[<-he,hM.tokBox t k t1 hk]at t3;cases t3
  have hM2:RM cx gh {st with live:=live'} w':=by
   rcases hcases with⟨rfl,_⟩|⟨b',C,D,cap,hv,hnc,_,hC',rfl,hD,_⟩|⟨b',D,cap,hG,_⟩
   .exact M1
   .have hb:=hnone b' _ (.inl ⟨rw_,by simp,hC'⟩)
    have hblk:=hliesb rw_ (by simp) b' _ hC'
    refine M1.setRow hblk hb.1 (fun oo vv hgv=>?_) hb.2.2 hb.2.1
    have hlt:oo<List.length (α:=dens c0) l*c0.length:=by
     rcases Nat.lt_or_ge oo (List.length (α:=dens c0) l*c0.length)with h|h
     .exact h
     .rw[hroom b' _ cap hv hnc oo h]at hgv;cases hgv
    rw[hD oo hlt]
    have:=hM.lies b' oo vv hgv
    rw[cell_of_row w b' oo C e0 (0,0) hblk]at this
    exact this
   .exact M1.world hG
  have hlf:Bu f w':=fun b ob hb=>by
   obtain⟨h,hh,hb⟩:=hf2 b ob hb
   rcases List.mem_cons.1 hh with rfl|hh'
   .exact hlf' b ob hb
   .have hold:w.heap[b]? =some ob:=by
     rcases List.mem_append.1 hh' with q|q
     .exact hliesb h (by simp[q]) b ob hb
     .obtain⟨t,t1,_,t3⟩:=u2 h q b ob hb
      exact(hM.tok t (s1 t t1)).2.1 b ob t3
    rcases hcases with⟨rfl,_⟩|⟨b',C,D,cap,_,_,_,hC',rfl,_,hfe⟩|⟨b',D,cap,hG,_⟩
    .exact hold
    .rw[setRow_other w b' b D (fun e=>by
      subst e
      rcases hapf h hh' b with k1|k1
      .rw[hfe]at k1;simp[Ac.one]at k1
      .rw[k1]at hb;cases hb)]
     exact hold
    .rw[hG.block b (Array.getElem?_eq_some_iff.1 hold).1];exact hold
  have hr':Ua gh.G (Kr (.sl e0 c0)) v':=by
   rcases hcases with⟨_,_,rfl,hm0⟩|⟨b',C,D,cap,hv,hnc,hv',_,_,_,_⟩|⟨b',D,cap,hG,hbw,hv',_⟩
   .exact hroom
   .intro b n cp e hlt oo hoo
    rw[hv']at e;cases e
    refine hroom b' _ cap hv hnc oo (Nat.le_trans (Nat.mul_le_mul_right _ ?_) hoo)
    omega
   .intro b n cp e hlt oo hoo
    rw[hv']at e;cases e
    subst hbw
    exact Vp hM.lies (Nat.le_refl _) oo
  obtain⟨gh',M',E',C',_⟩:=A32 hM2 hnewt (live':=live') (fun _ h=>h) n2 hlf (s:=.sl e0 c0) (hsl:=rfl) (hf:=fun b ob hb=>by
   left
   obtain⟨h,hh,hb⟩:=hf2 b ob hb
   rcases List.mem_cons.1 hh with rfl|hh
   .rcases hf' b ob hb with⟨ob',hb'⟩|rfl
    .exact hnone b ob' (.inl ⟨rw_,by simp,hb'⟩)
    .have:=Es hM (Nat.le_refl w.heap.size)
     exact⟨this.1,fun t ht=>this.2.1 t (s1 t (s2 t ht)),this.2.2⟩
   .rcases List.mem_append.1 hh with q|q
    .exact hnone b ob (.inl ⟨h,by simp[q],hb⟩)
    .exact hnone b ob (.inr ⟨h,q,hb⟩)) (hO:=hO') (hr:=hr')
  refine C9 (v:=v') (w':=w') ?_ (hn gh' _ _ _ _ _ h hst M' (E1.trans E') rfl (show VR cx gh' _ (.v false [⟨.sl e0 c0,(l++m:List (dens c0)),.own (64*dn)⟩]) _ from⟨C',trivial⟩))
  unfold execOp;rw[ho]
  simp only[resolve,invoke,builtin,Sem.run_bind,Sem.run_pure,Result.andThen_ok,List.map_toArray,List.map_cons,List.map_nil,hv2,hrun]
end
end
end Go.Proofs.YthccfdmiejmbaaaGreat

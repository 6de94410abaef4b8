/-
  That the program and the reference answer alike, in plain terms, and that the laws answer true.
-/
import Derived.Test.YtmhhajdeafijmaaL51
namespace Go.Proofs.Ytmhhajdeafijmaa
open Go.RowKit
set_option linter.unusedVariables false
set_option linter.unusedSimpArgs false
set_option maxRecDepth 100000
set_option maxHeartbeats 8000000
noncomputable section
theorem Alc {α β γ:Type} (x:Option α) (f:α→Option β) (g:β→γ):Option.map g (ob x f)=ob x fun a=>Option.map g (f a):=by cases x<;>rfl
theorem Ald {β γ:Type} (c:Bool) (x y:Option β) (g:β→γ):Option.map g (br c x y)=br c (Option.map g x) (Option.map g y):=by cases c<;>rfl
theorem Akh {β γ:Type} (c:Bool) (x:Option β) (g:β→γ):Option.map g (chk c x)=chk c (Option.map g x):=by cases c<;>rfl
def Wb (l:List YOp) (n:Int) (i:Nat):DI⊕DO→DI⊕DO
 | .inl d=>.inl (d.1,d.2.1,d.2.2.1,l,n,((i+1:Nat):Int),())
 | .inr o=>.inr o
theorem Ab6 (l:List YOp) (seen:List A5) (known st:List YBs) (i:Nat) (x:YOp) (hi:i<l.length) (hx:l[i]? =some x) (hll:l.length≤16):
  A8 (seen,known,st,l,(l.length:Int),(i:Int),())=Option.map (Wb l l.length i) (A8 (seen,known,st,[x],(1:Int),(0:Int),())):=by
 have e0:IntKind.i64.wrap ((i:Int)+1)=((i+1:Nat):Int):=by rw[w64 zq0];rfl
 unfold A8
 simp only[Ad,Ae,Ac,Ah,Hi hi,Ap,Bb hx,Ag,Alc,Ald,Akh,Option.map_some,Wb,show decide ((0:Int)<(1:Int))=true from rfl,show idx [x] (0:Int)=some x from rfl,e0]
theorem Ahr {l l':List YOp} {seen:List A5} {known st:List YBs} {i:Nat} (hi:i<l.length) (hi':i<l'.length) (hx:l[i]? =l'[i]?) (hll:l.length≤16) (hll':l'.length≤16) {R:Option (List YBs)}
  (h:A8 (seen,known,st,l,(l.length:Int),(i:Int),())=Rv l seen known i R):A8 (seen,known,st,l',(l'.length:Int),(i:Int),())=Rv l' seen known i R:=by
 have hx1:=List.getElem?_eq_getElem hi
 rw[Ab6 l seen known st i _ hi hx1 hll]at h
 rw[Ab6 l' seen known st i _ hi' (hx▸hx1) hll']
 cases hb:A8 (seen,known,st,[l[i]],(1:Int),(0:Int),())with
 |none=>rw[hb]at h;cases R<;>cases h
 |some d=>
  rw[hb]at h
  cases R with
  |none=>
   rcases d with d|d
   ·cases h
   ·simp only[Option.map_some,Wb,Rv,Option.some.injEq,Sum.inr.injEq]at h
    subst h;rfl
  |some t=>
   rcases d with d|d
   ·simp only[Option.map_some,Wb,Rv,Option.some.injEq,Sum.inl.injEq,Prod.mk.injEq]at h
    obtain⟨h1,h2,h3,_⟩:=h
    simp only[Option.map_some,Wb,Rv,h1,h2,h3]
   ·cases h
theorem Aki (l:List YOp) (y:YOp) (seen:List A5) (known:List YBs) (hll:l.length<16) (hseen: ∀w∈seen,w.2.2.2.2.1.length≤4294967296) (hknown: ∀w∈known,w.1.length≤4294967296) (hsl:seen.length≤4294967296) (hkl:known.length≤4294967296) (t:List YBs):
  ∀(k i:Nat) (st:List YBs),i+k=l.length→Ss st→Am A8 (seen,known,st,l,(l.length:Int),(i:Int),())=some (.inr (t,()))→
   Am A8 (seen,known,st,l++[y],((l++[y]).length:Int),(i:Int),())=Am A8 (seen,known,t,l++[y],((l++[y]).length:Int),(l.length:Int),()):=by
 intro k
 induction k with
 |zero=>
  intro i st hi hs h
  have e:i=l.length:=by omega
  subst e
  rw[A7]at h
  unfold A8 at h
  simp only[Ad,Ac,Gp,Aj,Option.some.injEq,Sum.inr.injEq,Prod.mk.injEq,and_true]at h
  rw[h]
 |succ k ih=>
  intro i st hi hs h
  have hlt:i<l.length:=by omega
  obtain⟨R,h1,_,h3⟩:=Zy l seen known st i l[i] hlt (List.getElem?_eq_getElem hlt) zq0 hs.1 hs.2 hseen hknown hsl hkl
  have h1':=Ahr (l':=l++[y]) hlt zq2 (by rw[List.getElem?_append_left hlt]) zq0 zq2 h1
  rw[A7,h1]at h
  rw[A7,h1']
  cases R with
  |none=>cases h
  |some s=>exact ih (i+1) s zq0 (h3 s rfl) h
theorem Ab7 (l:List YOp) (seen:List A5) (known:List YBs) (b:List YB) (h:Co (l,()) (seen,()) (known,())=some ((b,()),(true,()))) (hseen: ∀w∈seen,w.2.2.2.2.1.length≤4294967296) (hknown: ∀w∈known,w.1.length≤4294967296) (hsl:seen.length≤4294967296) (hkl:known.length≤4294967296):
  Am A8 (seen,known,([]:List YBs),l,(l.length:Int),((0:Nat):Int),())=some (.inr ([(b,())],()))∧b.length≤200:=by
 unfold Co Jg at h
 simp only[Ad,Ae,Ac,Ah,N6]at h
 by_cases h0:(l.length:Int)>16
 ·rw[Af h0,Ap]at h;simp at h
 rw[Au h0,Aj]at h
 obtain⟨o,h1,h2,h3,h4⟩:=Rw l seen known zq0 hseen hknown hsl hkl l.length 0 [] zq0 ⟨by simp,fun y hy=>by cases hy⟩
 rw[show Am A8 (seen,known,([]:List YBs),l,(l.length:Int),(0:Int),())=some o from h1]at h
 simp only[Ag]at h
 rcases o with⟨b',q,⟨⟩⟩|⟨t,⟨⟩⟩
 ·obtain⟨rfl,rfl⟩:=h4 b' q rfl
  simp[sm]at h
 ·obtain⟨g1,g2⟩:=h3 t rfl
  simp only[Af5,bne]at h
  cases ht:((t.length:Int)==1)with
  |false=>rw[ht]at h;simp[br]at h
  |true=>
   have ht':t.length=1:=by have:=eq_of_beq ht;omega
   match t,ht',g2 with
   |[x],_,g2=>
    have hx:=g2 x zq3
    obtain⟨x,⟨⟩⟩:=x
    simp only at hx
    rw[ht]at h
    simp only[Bool.not_true,Aj,show idx [((x,()):YBs)] (0:Int)=some (x,())from rfl,Ag]at h
    rw[G6 _ zq5]at h
    simp only[Ag,Option.some.injEq,Prod.mk.injEq,and_true]at h
    subst h
    exact⟨h1,hx⟩
theorem Zz (l:List YOp) (y:YOp) (seen:List A5) (known:List YBs) (b c:List YB) (hll:l.length<16) (h:Co (l,()) (seen,()) (known,())=some ((b,()),(true,()))) (hseen: ∀w∈seen,w.2.2.2.2.1.length≤4294967296) (hknown: ∀w∈known,w.1.length≤4294967296) (hsl:seen.length≤4294967296) (hkl:known.length≤4294967296)
  (hy:J5 y=true) (ho:Br (y.1,())=some (1,())) (hp:Az y ([(b,())],()) (seen,()) (known,())=some ((c,()),(true,()))) (hc:c.length≤200):Co (l++[y],()) (seen,()) (known,())=some ((c,()),(true,())):=by
 obtain⟨h1,hb⟩:=Ab7 l seen known b h hseen hknown hsl hkl
 have h2:=Aki l y seen known hll hseen hknown hsl hkl _ l.length 0 [] zq0 ⟨by simp,fun y hy=>by cases hy⟩ h1
 have hlen:(l++[y]).length=l.length+1:=by simp
 have hi:l.length<(l++[y]).length:=by omega
 have hx:(l++[y])[l.length]? =some y:=by simp
 have hstep:A8 (seen,known,[(b,())],l++[y],((l++[y]).length:Int),(l.length:Int),())=some (.inl (seen,known,[(c,())],l++[y],((l++[y]).length:Int),((l.length+1:Nat):Int),())):=by
  have e0:IntKind.i64.wrap ((l.length:Int)+1)=((l.length+1:Nat):Int):=by rw[w64 zq0];rfl
  have e1:IntKind.i64.wrap (((1:Nat):Int)-1)=0:=by decide
  unfold A8
  simp only[Ad,Ae,Ac,Ah,Hi hi,Ap,Bb hx,Ag,ho,Ab3,hy,Bool.not_true,Aj,List.length_cons,List.length_nil,Nat.zero_add,e1,e0]
  simp only[show decide ((0:Int)<0)=false from rfl,Aj,show decide ((0:Int)≤0)=true from rfl,Ar,show decide ((0:Int)≤((1:Nat):Int))=true from rfl,show decide (((1:Nat):Int)≤((1:Nat):Int))=true from rfl,show(([((b,()):YBs)].take ((1:Nat):Int).toNat).drop (0:Int).toNat)=[(b,())]from rfl,hp,Ag,Bool.not_true]
  rw[Au (show ¬(c.length:Int)>200 by omega)]
  rfl
 unfold Co Jg
 simp only[Ad,Ae,Ac,Ah,N6]
 rw[Au (show ¬((l++[y]).length:Int)>16 by omega),Aj,show Am A8 (seen,known,([]:List YBs),l++[y],((l++[y]).length:Int),(0:Int),())=_ from h2,A7,hstep]
 dsimp only
 rw[A7]
 have hend:A8 (seen,known,[(c,())],l++[y],((l++[y]).length:Int),((l.length+1:Nat):Int),())=some (.inr (.inr ([(c,())],()))):=by
  unfold A8
  simp only[Ad,Ac,hlen,Gp,Aj]
 rw[hend]
 simp only[Ag,Af5]
 rw[show(((([((c,()):YBs)].length:Int)) != (1:Int)))=false from rfl,Aj,show idx [((c,()):YBs)] (0:Int)=some (c,())from rfl,Ag,G6 _ zq5,Ag]
theorem Ahs (l:List YOp) (seen:List A5) (known:List YBs) (b:List YB) (hll:l.length<16) (h:Co (l,()) (seen,()) (known,())=some ((b,()),(true,()))) (hseen: ∀w∈seen,w.2.2.2.2.1.length≤4294967296) (hknown: ∀w∈known,w.1.length≤4294967296) (hsl:seen.length≤4294967296) (hkl:known.length≤4294967296):
  Co (l++[((9:Int),(0:Int),(0:Int),([]:List YB),())],()) (seen,()) (known,())=some ((Hj b Oa,()),(true,())):=by
 refine Zz l _ seen known b _ hll h hseen hknown hsl hkl rfl rfl ?_ (by have:=Af3 b Oa;omega)
 unfold Az Bp
 simp only[Ad,Ae,Ac,Ah]
 simp only[show((9:Int)==1)=false from rfl,show((9:Int)==2)=false from rfl,show((9:Int)==3)=false from rfl,show((9:Int)==4)=false from rfl,show((9:Int)==5)=false from rfl,show((9:Int)==6)=false from rfl,show((9:Int)==7)=false from rfl,show((9:Int)==8)=false from rfl,show((9:Int)==9)=true from rfl,Aj,Ap,show idx [((b,()):YBs)] (0:Int)=some (b,())from rfl,Ag]
 rw[show Fk (b,()) (F9 [114,101,107,101,121],())=_ from Rs b,Ag]
theorem Ai8 (l:List YOp) (seen:List A5) (known:List YBs) (b:List YB) (hll:l.length<16) (h:Co (l,()) (seen,()) (known,())=some ((b,()),(true,()))) (hseen: ∀w∈seen,w.2.2.2.2.1.length≤4294967296) (hknown: ∀w∈known,w.1.length≤4294967296) (hsl:seen.length≤4294967296) (hkl:known.length≤4294967296):
  Co (l++[((4:Int),(0:Int),(b.length:Int),([]:List YB),())],()) (seen,()) (known,())=some ((b,()),(true,())):=by
 obtain⟨_,hb⟩:=Ab7 l seen known b h hseen hknown hsl hkl
 refine Zz l _ seen known b _ hll h hseen hknown hsl hkl ?_ rfl ?_ hb
 ·unfold J5
  simp only[Bool.and_eq_true,Kq,decide_eq_true_eq,List.length_nil]
  omega
 unfold Az Bp
 simp only[Ad,Ae,Ac,Ah]
 simp only[show((4:Int)==1)=false from rfl,show((4:Int)==2)=false from rfl,show((4:Int)==3)=false from rfl,show((4:Int)==4)=true from rfl,Aj,Ap,show idx [((b,()):YBs)] (0:Int)=some (b,())from rfl,Ag]
 rw[Afs b 0 b.length zq0,if_pos ⟨by omega,by omega,by omega⟩]
 simp only[Ag,Int.toNat_zero,List.drop_zero,Int.toNat_natCast,List.take_length]
end
end Go.Proofs.Ytmhhajdeafijmaa

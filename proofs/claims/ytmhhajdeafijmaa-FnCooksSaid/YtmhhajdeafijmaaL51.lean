/-
  That the program and the reference answer alike, in plain terms, and that the laws answer true.
-/
import Derived.Test.YtmhhajdeafijmaaL50
namespace Go.Proofs.Ytmhhajdeafijmaa
open Go.RowKit
set_option linter.unusedVariables false
set_option linter.unusedSimpArgs false
set_option maxRecDepth 100000
set_option maxHeartbeats 8000000
noncomputable section
theorem Rw (l:List YOp) (seen:List A5) (known:List YBs) (hll:l.length≤16) (hseen: ∀w∈seen,w.2.2.2.2.1.length≤4294967296) (hknown: ∀w∈known,w.1.length≤4294967296) (hsl:seen.length≤4294967296) (hkl:known.length≤4294967296):
  ∀(k i:Nat) (st:List YBs),i+k=l.length→Ss st→ ∃o:DO,Am A8 (seen,known,st,l,(l.length:Int),(i:Int),())=some o∧Am Du (l,seen,known,st,(i:Int),())=some o∧(∀t,o= .inr (t,())→Ss t)∧(∀b q,o= .inl (b,q,())→b=[]∧q=false):=by
 intro k
 induction k with
 |zero=>
  intro i st hi hs
  have e:i=l.length:=by omega
  subst e
  refine⟨.inr (st,()),?_,?_,fun t h=>?_,fun b q h=>by cases h⟩
  ·rw[A7]
   unfold A8
   simp only[Ad,Ac,Gp,Aj]
  ·rw[A7]
   unfold Du
   simp only[Ad,Ac,Gp,Aj]
  ·simp only[Sum.inr.injEq,Prod.mk.injEq,and_true]at h
   subst h;exact hs
 |succ k ih=>
  intro i st hi hs
  have hlt:i<l.length:=by omega
  obtain⟨R,h1,h2,h3⟩:=Zy l seen known st i l[i] hlt (List.getElem?_eq_getElem hlt) hll hs.1 hs.2 hseen hknown hsl hkl
  rw[A7,h1,A7 Du,h2]
  cases R with
  |none=>exact⟨.inl ([],false,()),rfl,rfl,fun t h=>(by cases h),fun b q h=>(by cases h;exact⟨rfl,rfl⟩)⟩
  |some t=>exact ih (i+1) t zq0 (h3 t rfl)
theorem Akg (l:List YOp) (seen:List A5) (known:List YBs) (hseen: ∀w∈seen,w.2.2.2.2.1.length≤4294967296) (hknown: ∀w∈known,w.1.length≤4294967296) (hsl:seen.length≤4294967296) (hkl:known.length≤4294967296):
  ∃b k,Co (l,()) (seen,()) (known,())=some ((b,()),(k,()))∧Ud (l,()) (seen,()) (known,())=some ((b,()),(k,()))∧b.length≤200:=by
 have nope: ∃(b:List YB) (k:Bool),some ((([]:List YB),()),(false,()))=some ((b,()),(k,()))∧some ((([]:List YB),()),(false,()))=some ((b,()),(k,()))∧b.length≤200:=⟨[],false,rfl,rfl,by simp⟩
 unfold Co Jg Ud Pj
 simp only[Ad,Ae,Ac,Ah,N6]
 by_cases h0:(l.length:Int)>16
 ·rw[Af h0,Ap,Ap];exact nope
 rw[Au h0,Aj,Aj]
 obtain⟨o,h1,h2,h3,h4⟩:=Rw l seen known zq0 hseen hknown hsl hkl l.length 0 [] zq0 ⟨by simp,fun y hy=>by cases hy⟩
 rw[show Am A8 (seen,known,([]:List YBs),l,(l.length:Int),(0:Int),())=some o from h1,show Am Du (l,seen,known,([]:List YBs),(0:Int),())=some o from h2]
 simp only[Ag]
 rcases o with⟨b,q,⟨⟩⟩|⟨t,⟨⟩⟩
 ·obtain⟨rfl,rfl⟩:=h4 b q rfl
  exact nope
 ·obtain⟨g1,g2⟩:=h3 t rfl
  simp only[Af5,bne]
  cases ht:((t.length:Int)==1)with
  |false=>exact nope
  |true=>
   have ht':t.length=1:=by have:=eq_of_beq ht;omega
   match t,ht',g2 with
   |[x],_,g2=>
    have hx:=g2 x zq3
    obtain⟨x,⟨⟩⟩:=x
    simp only at hx
    simp only[Bool.not_true,Aj,show idx [((x,()):YBs)] (0:Int)=some (x,())from rfl,Ag]
    rw[G6 _ zq5]
    simp only[Ag,List.length_nil,Nat.zero_add,List.nil_append]
    rw[Af zq0,Ar]
    exact⟨x,true,rfl,rfl,hx⟩
end
end Go.Proofs.Ytmhhajdeafijmaa

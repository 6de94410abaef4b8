/-
  That the program and the reference answer alike, in plain terms, and that the laws answer true.
-/
import Derived.Test.YtfljmgnghlpapaaGreatL22
namespace Go.Proofs.YtfljmgnghlpapaaGreat
open Go.RowKit
set_option linter.unusedVariables false
set_option linter.unusedSimpArgs false
set_option maxRecDepth 100000
set_option maxHeartbeats 4000000
noncomputable section
theorem A2s {t:Bp} {i:Nat} {x:Ad} (h:Ev t=true) (hx:t.2.1[i]? =some x):Cs x=true:=by
 unfold Ev at h
 simp only[Bool.and_eq_true]at h
 have h1:=Hq.1 h.2.2.2 i x hx
 unfold Gs at h1
 simp only[Bool.not_eq_false',Bool.and_eq_true]at h1
 exact h1.1
theorem Ah9 {s:Az} (h:Ck s=true):Ev (s.2.2.2.2.1,s.2.2.2.2.2.1,())=true:=by
 unfold Ck at h
 simp only[Bool.and_eq_true]at h
 exact h.2.2.2.1
theorem Bdl (s:Ad) (h:Aw s≤4294967296) (ho:Cs s=true): ∃r,Rs s=some r∧I7 s=some r∧Aw r≤Aw s∧Cs r=true∧r.2.2.1=s.2.2.1∧Bo r=true:=by
 unfold Rs Ag0 I7 Afu
 simp only[Ac,Ae,Ab,Al]
 rw[Oy s h,Ahz s h,Ai,Ai,ho]
 simp only[Bool.not_true,Au]
 simp only[Aw]at h
 simp (disch:=first|omega|(dsimp only;omega)) only[Dv,Ai,List.length_nil,Nat.zero_add,List.nil_append,An,A8]
 refine⟨_,rfl,rfl,?_,?_,rfl,rfl⟩
 ·simp only[Aw,Co,List.length_nil]
  omega
 ·unfold Cs at ho ⊢
  simp only[Bool.and_eq_true]at ho ⊢
  refine⟨ho.1,ho.2.1,ho.2.2.1,ho.2.2.2.1,?_⟩
  rfl
theorem Awa (s:Az) (n:YI) (h:A3 s≤536870912):
  ∃r ns k,It s n=some (r,(ns,()),(k,()))∧Qo s n=some (r,(ns,()),(k,()))∧A3 r≤2*A3 s∧ns.length+Co Tu ns≤A3 s+9:=by
 have h':=h
 simp only[A3]at h'
 have hl:(s.2.2.2.2.2.1.length:Int)≤A3 s:=by simp only[A3];omega
 unfold It K4 Qo P7 Pa Aaa Aty Ag1
 simp only[Ac,Ae,Ab,Al,List.length_nil,Nat.zero_add,List.nil_append]
 rw[Hy s zq0,Ayi s zq0,E4 s zq0,Ah4 s zq0,Df]
 simp only[Ai]
 have nope: ∀k:Int,∃r ns k',some (s,(([]:List A6),()),(k,()))=some (r,(ns,()),(k',()))∧some (s,(([]:List A6),()),(k,()))=some (r,(ns,()),(k',()))∧A3 r≤2*A3 s∧ns.length+Co Tu ns≤A3 s+9:=fun k=>
  ⟨s,[],k,rfl,rfl,by omega,by simp[Co]⟩
 cases ho:Ck s with
 |false=>exact nope 1
 |true=>
  simp only[Bool.not_true,Au]
  by_cases h0:n.1<0
  ·have hr:inR n.1 0 (IntKind.i64.wrap ((s.2.2.2.2.2.1.length:Int)-1))=false:=by
    cases hh:inR n.1 0 (IntKind.i64.wrap ((s.2.2.2.2.2.1.length:Int)-1))with
    |false=>rfl
    |true=>have:=Cu.1 hh;omega
   simp only[hr,An h0,Bool.not_false,A4]
   exact nope 8
  ·simp only[Bj h0,Au]
   by_cases h1:n.1≥(s.2.2.2.2.2.1.length:Int)
   ·have hr:inR n.1 0 (IntKind.i64.wrap ((s.2.2.2.2.2.1.length:Int)-1))=false:=by
     rw[w64 zq0]
     cases hh:inR n.1 0 ((s.2.2.2.2.2.1.length:Int)-1)with
     |false=>rfl
     |true=>have:=Cu.1 hh;omega
    simp only[hr,An h1,Bool.not_false,A4]
    exact nope 8
   ·have hr:inR n.1 0 (IntKind.i64.wrap ((s.2.2.2.2.2.1.length:Int)-1))=true:=by
     rw[w64 zq0]
     exact Cu.2 ⟨by omega,by omega⟩
    simp only[hr,Bj h1,Bool.not_true,Au]
    have hlt:n.1.toNat<s.2.2.2.2.2.1.length:=by omega
    have hx:=List.getElem?_eq_getElem hlt
    have hid:idx s.2.2.2.2.2.1 n.1=some s.2.2.2.2.2.1[n.1.toNat]:=by unfold idx;rw[if_pos zq0];exact hx
    rw[hid]
    simp only[Ai]
    generalize hxe:s.2.2.2.2.2.1[n.1.toNat]=x at hx
    have hnx:=Fb (f:=Aw) hx
    have hxn:x.2.2.1.length≤Aw x:=by simp only[Aw];omega
    have ht:=Ah9 ho
    have hsx:=A2s ht hx
    by_cases hd:x.2.2.2.2.2.2.2.2.2.2.2.2.2.2.2.2.2.2.2.2.2.2.2.1=true
    ·rw[Fu hd,Fu hd];exact nope 8
    ·have hd':x.2.2.2.2.2.2.2.2.2.2.2.2.2.2.2.2.2.2.2.2.2.2.2.1=false:=by simpa using hd
     rw[Em hd',Em hd']
     obtain⟨y,b1,b2,b3,b4,b5,b6⟩:=Bdl x zq0 hsx
     have hset:=Amw (t:=(s.2.2.2.2.1,s.2.2.2.2.2.1,())) zq2 ht hx b4 b5 (.inl b6)
     rw[b1,b2]
     simp only[Ai]
     rw[Auc (s.2.2.2.2.1,s.2.2.2.2.2.1,()) n y x zq6 ht zq0 hx hset,Dv _ zq2,An zq0]
     simp only[Ai,A8]
     refine⟨_,_,0,rfl,rfl,?_,?_⟩
     ·have h9:=Ah5 (f:=Aw) (l:=s.2.2.2.2.2.1) (i:=n.1.toNat) (x:=y)
      simp only[A3,List.length_set]at*;omega
     ·simp only[Co,Tu,A3,List.length_cons,List.length_nil];omega
end
end Go.Proofs.YtfljmgnghlpapaaGreat

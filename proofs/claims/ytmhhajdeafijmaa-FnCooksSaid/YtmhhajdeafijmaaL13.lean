/-
  That the program and the reference answer alike, in plain terms, and that the laws answer true.
-/
import Derived.Test.YtmhhajdeafijmaaL10
namespace Go.Proofs.Ytmhhajdeafijmaa
open Go.RowKit
set_option linter.unusedVariables false
set_option linter.unusedSimpArgs false
set_option maxRecDepth 100000
set_option maxHeartbeats 4000000
noncomputable section
def Gq (k l:List YB):List YB×Bool:=if l.length≤100∧k.length≤1048576 then(Di k (l++[((1:Int),())]),true)else([],false)
theorem Af1 (k l:List YB):O8 (k,()) (l,()) ((32:Int),())=some (((Gq k l).1,()),((Gq k l).2,())):=by
 unfold O8 O7 Gq
 simp only[Ad,Ae,Ac,Ah,Hy,Ag]
 rw[Iy zq4]
 by_cases hl:l.length≤100
 ·rw[Au zq0,Aj]
  by_cases hk:k.length≤1048576
  ·rw[Au zq0,Aj,if_pos ⟨hl,hk⟩]
   have h32:(Di k (l++[((1:Int),())])).length=32:=Xu _ _ hk zq2
   have e1:Ey (k,l,(32:Int),[],[],(1:Int),())=some (.inl (k,l,(32:Int),Di k (l++[((1:Int),())]),Di k (l++[((1:Int),())]),(2:Int),())):=by
    unfold Ey
    simp only[Ad,Ae,Ac,Ah]
    rw[Af zq3,Ap,Hz _ (by simp[cat];omega) zq3,Ag,show cat [([],()),(l,()),([(IntKind.u8.wrap 1,())],())]=l++[((1:Int),())] by simp[cat];rfl,V7,Ag,Af (by dsimp only[List.length_nil];omega),Ar,List.nil_append]
    rfl
   have e2:Ey (k,l,(32:Int),Di k (l++[((1:Int),())]),Di k (l++[((1:Int),())]),(2:Int),())=some (.inr ((32:Int),Di k (l++[((1:Int),())]),())):=by
    unfold Ey
    simp only[Ad,Ae,Ac,Ah]
    rw[Au zq0,Aj]
   rw[A7,e1]
   simp only
   rw[A7,e2]
   simp only[Ag]
   rw[Af zq0,Ar,Af zq0,Ar,show(32:Int).toNat=32 from rfl,show(0:Int).toNat=0 from rfl,List.drop_zero,List.take_of_length_le zq0,G6 _ zq5,Ag]
  ·rw[Af zq0,Ap,if_neg (fun h=>hk h.2)]
 ·rw[Af zq0,Ap,if_neg (fun h=>hl h.1)]
theorem Af2 (k l:List YB):Pf (k,()) (l,()) ((32:Int),())=some (((Gq k l).1,()),((Gq k l).2,())):=by
 unfold Pf Pe Gq
 simp only[Ad,Ae,Ac,Ah,J2,Ag,List.nil_append,List.length_nil,Nat.zero_add]
 rw[Iy zq4]
 by_cases hl:l.length≤100
 ·rw[Au zq0,Aj]
  by_cases hk:k.length≤1048576
  ·rw[Au zq0,Aj,if_pos ⟨hl,hk⟩]
   have h32:(Di k (l++[((1:Int),())])).length=32:=Xu _ _ hk zq2
   have e1:E0 (k,l,(32:Int),[],[],(1:Int),())=some (.inl (k,l,(32:Int),Di k (l++[((1:Int),())]),Di k (l++[((1:Int),())]),(2:Int),())):=by
    unfold E0
    simp only[Ad,Ae,Ac,Ah,List.nil_append,List.length_nil,Nat.zero_add]
    rw[Af zq3,Ap,Af zq0,Ar,Af zq0,Ar,Af zq2,Ar,show(IntKind.u8.wrap 1:Int)=1 from rfl,V8,Ag,Af zq5,Ar]
    rfl
   have e2:E0 (k,l,(32:Int),Di k (l++[((1:Int),())]),Di k (l++[((1:Int),())]),(2:Int),())=some (.inr ((32:Int),Di k (l++[((1:Int),())]),())):=by
    unfold E0
    simp only[Ad,Ae,Ac,Ah]
    rw[Au zq0,Aj]
   rw[A7,e1]
   simp only
   rw[A7,e2]
   simp only[Ag]
   rw[Af zq0,Ar,Af zq0,Ar,show(32:Int).toNat=32 from rfl,show(0:Int).toNat=0 from rfl,List.drop_zero,List.take_of_length_le zq0,Af zq0,Ar]
  ·rw[Af zq0,Ap,if_neg (fun h=>hk h.2)]
 ·rw[Af zq0,Ap,if_neg (fun h=>hl h.1)]
def Hj (k l:List YB):List YB:=(Gq k l).1
theorem Af3 (k l:List YB):(Hj k l).length=32∨(Hj k l).length=0:=by
 unfold Hj Gq
 split
 ·exact Un _ _
 ·right;rfl
theorem Ai1 (k:List YB) (b:ByteArray) (h:b.size≤4294967296):Fk (k,()) (b,())=some (Hj k (Ke b),()):=by
 unfold Fk O9
 simp only[Ae,Ac,Ah]
 rw[Af h,Ar,Af1,Ag];rfl
theorem Ai2 (k:List YB) (b:ByteArray) (h:b.size≤4294967296):Kl (k,()) (b,())=some (Hj k (Ke b),()):=by
 unfold Kl Pg
 simp only[Ae,Ac,Ah]
 rw[Af h,Ar,Af2,Ag];rfl
def Oa:List YB:=Ke (F9 [114,101,107,101,121])
theorem Rs (k:List YB):Fk (k,()) (F9 [114,101,107,101,121],())=some (Hj k Oa,()):=Ai1 k _ zq4
theorem Aho (k:List YB):Kl (k,()) (F9 [114,101,107,101,121],())=some (Hj k Oa,()):=Ai2 k _ zq4
end
end Go.Proofs.Ytmhhajdeafijmaa

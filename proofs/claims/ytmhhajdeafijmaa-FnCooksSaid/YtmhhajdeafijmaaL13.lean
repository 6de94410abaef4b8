/-
  That the program and the reference answer alike, in plain terms, and that the laws answer true.
-/
import Derived.Test.YtmhhajdeafijmaaL10
namespace Go.Proofs.Ytmhhajdeafijmaa
open Go.RowKit
set_option linter.unusedVariables false
set_option linter.unusedSimpArgs false
set_option maxRecDepth 100000
set_option maxHeartbeats 4000000
noncomputable section
def Gp (k l:List YB):List YB×Bool:=if l.length≤100∧k.length≤1048576 then(Dg k (l++[((1:Int),())]),true)else([],false)
theorem Afx (k l:List YB):O6 (k,()) (l,()) ((32:Int),())=some (((Gp k l).1,()),((Gp k l).2,())):=by
 unfold O6 O5 Gp
 simp only[Ad,Ae,Ac,Ah,Hw,Ag]
 rw[Iv zq4]
 by_cases hl:l.length≤100
 ·rw[Av zq0,Ai]
  by_cases hk:k.length≤1048576
  ·rw[Av zq0,Ai,if_pos ⟨hl,hk⟩]
   have h32:(Dg k (l++[((1:Int),())])).length=32:=Xr _ _ hk zq2
   have e1:Ey (k,l,(32:Int),[],[],(1:Int),())=some (.inl (k,l,(32:Int),Dg k (l++[((1:Int),())]),Dg k (l++[((1:Int),())]),(2:Int),())):=by
    unfold Ey
    simp only[Ad,Ae,Ac,Ah]
    rw[Af zq3,Ap,Hx _ (by simp[cat];omega) zq3,Ag,show cat [([],()),(l,()),([(IntKind.u8.wrap 1,())],())]=l++[((1:Int),())] by simp[cat];rfl,V4,Ag,Af (by dsimp only[List.length_nil];omega),Ar,List.nil_append]
    rfl
   have e2:Ey (k,l,(32:Int),Dg k (l++[((1:Int),())]),Dg k (l++[((1:Int),())]),(2:Int),())=some (.inr ((32:Int),Dg k (l++[((1:Int),())]),())):=by
    unfold Ey
    simp only[Ad,Ae,Ac,Ah]
    rw[Av zq0,Ai]
   rw[A8,e1]
   simp only
   rw[A8,e2]
   simp only[Ag]
   rw[Af zq0,Ar,Af zq0,Ar,show(32:Int).toNat=32 from rfl,show(0:Int).toNat=0 from rfl,List.drop_zero,List.take_of_length_le zq0,G4 _ zq5,Ag]
  ·rw[Af zq0,Ap,if_neg (fun h=>hk h.2)]
 ·rw[Af zq0,Ap,if_neg (fun h=>hl h.1)]
theorem Afy (k l:List YB):Pd (k,()) (l,()) ((32:Int),())=some (((Gp k l).1,()),((Gp k l).2,())):=by
 unfold Pd Pc Gp
 simp only[Ad,Ae,Ac,Ah,J0,Ag,List.nil_append,List.length_nil,Nat.zero_add]
 rw[Iv zq4]
 by_cases hl:l.length≤100
 ·rw[Av zq0,Ai]
  by_cases hk:k.length≤1048576
  ·rw[Av zq0,Ai,if_pos ⟨hl,hk⟩]
   have h32:(Dg k (l++[((1:Int),())])).length=32:=Xr _ _ hk zq2
   have e1:E0 (k,l,(32:Int),[],[],(1:Int),())=some (.inl (k,l,(32:Int),Dg k (l++[((1:Int),())]),Dg k (l++[((1:Int),())]),(2:Int),())):=by
    unfold E0
    simp only[Ad,Ae,Ac,Ah,List.nil_append,List.length_nil,Nat.zero_add]
    rw[Af zq3,Ap,Af zq0,Ar,Af zq0,Ar,Af zq2,Ar,show(IntKind.u8.wrap 1:Int)=1 from rfl,V5,Ag,Af zq5,Ar]
    rfl
   have e2:E0 (k,l,(32:Int),Dg k (l++[((1:Int),())]),Dg k (l++[((1:Int),())]),(2:Int),())=some (.inr ((32:Int),Dg k (l++[((1:Int),())]),())):=by
    unfold E0
    simp only[Ad,Ae,Ac,Ah]
    rw[Av zq0,Ai]
   rw[A8,e1]
   simp only
   rw[A8,e2]
   simp only[Ag]
   rw[Af zq0,Ar,Af zq0,Ar,show(32:Int).toNat=32 from rfl,show(0:Int).toNat=0 from rfl,List.drop_zero,List.take_of_length_le zq0,Af zq0,Ar]
  ·rw[Af zq0,Ap,if_neg (fun h=>hk h.2)]
 ·rw[Af zq0,Ap,if_neg (fun h=>hl h.1)]
def Hh (k l:List YB):List YB:=(Gp k l).1
theorem Afz (k l:List YB):(Hh k l).length=32∨(Hh k l).length=0:=by
 unfold Hh Gp
 split
 ·exact Uk _ _
 ·right;rfl
theorem Aiy (k:List YB) (b:ByteArray) (h:b.size≤4294967296):Fk (k,()) (b,())=some (Hh k (Kb b),()):=by
 unfold Fk O7
 simp only[Ae,Ac,Ah]
 rw[Af h,Ar,Afx,Ag];rfl
theorem Aiz (k:List YB) (b:ByteArray) (h:b.size≤4294967296):Ki (k,()) (b,())=some (Hh k (Kb b),()):=by
 unfold Ki Pe
 simp only[Ae,Ac,Ah]
 rw[Af h,Ar,Afy,Ag];rfl
def N8:List YB:=Kb (F8 [114,101,107,101,121])
theorem Rq (k:List YB):Fk (k,()) (F8 [114,101,107,101,121],())=some (Hh k N8,()):=Aiy k _ zq4
theorem Ahl (k:List YB):Ki (k,()) (F8 [114,101,107,101,121],())=some (Hh k N8,()):=Aiz k _ zq4
end
end Go.Proofs.Ytmhhajdeafijmaa

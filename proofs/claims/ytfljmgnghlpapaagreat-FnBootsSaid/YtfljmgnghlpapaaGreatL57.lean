/-
  That the program and the reference answer alike, in plain terms, and that the laws answer true.
-/
import Derived.Test.YtfljmgnghlpapaaGreatL56
namespace Go.Proofs.YtfljmgnghlpapaaGreat
open Go.RowKit
set_option linter.unusedVariables false
set_option linter.unusedSimpArgs false
set_option maxRecDepth 100000
set_option maxHeartbeats 8000000
noncomputable section
theorem Awe (a:Bb) (h:A1 a≤4294967296):Oj a a=some (true,()):=by
 have hl:a.2.2.1.length≤A1 a:=by simp only[A1];omega
 have e:=B8 (B:=Gq) a.2.2.1.length (fun i=>((i:Int),a.1,a.2.1,a.2.2.1,a.1,a.2.1,a.2.2.1,())) (.inr ())
  (fun i hi=>by
   have hx:=List.getElem?_eq_getElem hi
   unfold Gq
   simp only[Ac,Ae,Ab,By hi,A4,Bk hx,Ai,beq_self_eq_true,Bool.and_true,Bool.not_true,Au,Jw,bne_self_eq_false]
   rw[w64 zq0]
   rfl)
  (by unfold Gq;simp only[Ac,Ab,Bz,Au])
 unfold Oj Uo
 simp only[Ac,Ae,Ab,Dn,beq_self_eq_true,Bool.and_true,Bool.not_true,Au,bne_self_eq_false]
 rw[show As Gq ((0:Int),a.1,a.2.1,a.2.2.1,a.1,a.2.1,a.2.2.1,())=_ from e]
 rfl
theorem A0c (s:Ad) (h:Aw s≤4294967296):Xw s s=some (true,()):=by
 have:=Ix s
 unfold Xw W3
 simp only[Ac,Ae,Ab,beq_self_eq_true,A4,Jw,Ai]
 rw[show Ql _ _=_ from A0b (Fx s) zq0]
 simp only[Ai,A4]
 rw[show Oj _ _=_ from Awe (Ew s) zq0]
 simp only[Ai,A4]
theorem A0d (n:A6):Xx n n=some (true,()):=by
 unfold Xx W4
 simp only[Ac,Ae,Ab,beq_self_eq_true,A4,N4,Qs,Ai,Bool.and_true]
theorem Ael (l:List A6) (h:l.length≤4294967296):Ok (l,()) (l,())=some (true,()):=by
 have e:=B8 (B:=Gr) l.length (fun i=>(l,l,(i:Int),())) (.inr ())
  (fun i hi=>by
   have hx:=List.getElem?_eq_getElem hi
   unfold Gr
   simp only[Ac,Ae,Ab,By hi,A4,Bk hx,Ai,A0d,Bool.not_true,Au]
   rw[w64 zq0]
   rfl)
  (by unfold Gr;simp only[Ac,Ab,Bz,Au])
 unfold Ok Uq
 simp only[Ac,Ae,Ab,Dn,bne_self_eq_false,Au]
 rw[show As Gr (l,l,(0:Int),())=_ from e]
 rfl
def M7 (s:Ad):Ad:=(s.1,s.2.1,s.2.2.1,0,[],0,[],0,0,[],0,[],0,0,[],false,0,[],0,0,[],X4 s,0,true,())
theorem Ayo (s:Ad) (h:Aw s≤4294967296) (ho:Cs s=true):Rs s=some (M7 s):=by
 have:=Ix s
 unfold Rs Ag0
 simp only[Ac,Ae,Ab,Al]
 rw[Oy s h,Ai,ho]
 simp only[Bool.not_true,Au]
 rw[Dv _ zq2,Ai,Dv _ zq2,Ai]
 rfl
theorem Aue (s:Ad):Aw (M7 s)≤Aw s:=by
 simp only[Aw,M7,Co,List.length_nil];omega
theorem Aic {s:Ad} (ho:Cs s=true):Cs (M7 s)=true:=by
 unfold Cs at ho ⊢
 simp only[Bool.and_eq_true]at ho ⊢
 exact⟨ho.1,ho.2.1,ho.2.2.1,ho.2.2.2.1,rfl⟩
theorem Bbk (s:Ad) (h:Aw s≤4294967296) (hs:Cs s=true) (ho:Bo s=true):X1 s ([((1:Int),())],())=some (s,(([]:List Ou),()),(([]:List A6),()),((6:Int),())):=by
 unfold X1 Xc
 simp only[Ac,Ae,Ab,Al]
 rw[M4 s h,Ai,Oy s h,Ai,hs]
 simp only[Bool.not_true,Au]
 rw[show s.2.2.2.2.2.2.2.2.2.2.2.2.2.2.2.2.2.2.2.2.2.2.2.1=true from ho,A4]
 rfl
end
end Go.Proofs.YtfljmgnghlpapaaGreat

/-
  That the program and the reference answer alike, in plain terms, and that the laws answer true.
-/
import Derived.Test.YtmhhajdeafijmaaGreatL43
namespace Go.Proofs.YtmhhajdeafijmaaGreat
open Go.RowKit
set_option linter.unusedVariables false
set_option linter.unusedSimpArgs false
set_option maxRecDepth 100000
set_option maxHeartbeats 8000000
noncomputable section
theorem Ue (a:YBs):H4 a a=some (true,()):=by
 unfold H4 Anf
 simp only[Ac,decide_true]
theorem Avo (a:(List YI)×Unit) (h:a.1.length≤4294967296):Xf a a=some (true,()):=by
 have e:=Cp (B:=Hw) a.1.length (fun i=>(a.1,a.1,(i:Int),())) (.inr ())
  (fun i hi=>by
   have hx:=List.getElem?_eq_getElem hi
   unfold Hw
   simp only[Ae,Ai,Ac,Et hi,A0,Cb hx,Ag,bne_self_eq_false,An]
   rw[w64 zq0]
   rfl)
  (by unfold Hw;simp only[Ae,Ac,Eu,An])
 unfold Xf W0
 simp only[Ae,Ai,Ac,Hb,bne_self_eq_false,An]
 rw[show Ay Hw (a.1,a.1,(0:Int),())=_ from e]
 rfl
theorem Axt (a:B8) (h:Ed a≤4294967296):Abk a a=some (true,()):=by
 unfold Abk Abb
 simp only[Ae,Ai,Ac,beq_self_eq_true,A0]
 rw[Avo _ (by simp only[Ed]at h;dsimp only;omega),Ag]
theorem Amm (a:YEp) (h:B5 a≤4294967296):Vo a a=some (true,()):=by
 unfold Vo Ae9
 simp only[Ae,Ai,Ac,beq_self_eq_true,A0,Ue,Ag]
 rw[Axt _ (by simp only[B5,Ed]at*;omega),Ag]
theorem Avp (a:Aj) (h:Av a≤4294967296):Rb a a=some (true,()):=by
 unfold Rb W1
 simp only[Ae,Ai,Ac,beq_self_eq_true,A0,Ue,Ag]
 rw[Amm _ (by simp only[Av,B5]at*;omega)]
 simp only[Ag,A0]
 rw[Amm _ (by simp only[Av,B5]at*;omega)]
 simp only[Ag,A0]
theorem A5u (b:List YB) (n:Int):N8 (b,()) (n,())=some (V0 b n,()):=by
 unfold N8 Aa9 V0
 simp only[Ae,Ac]
 cases ((b.length:Int)==0)<;>rfl
theorem Ba4 (x y:Bool):br x (some (y,())) (some (false,()))=some (x && y,()):=by cases x<;>rfl
theorem A7j (n:A8):Afn n=some (J2 n,()):=by
 unfold Afn Ae8 J2
 simp only[Ae,Ai,Ac,Cj,A5u,Kq,Ag,Ba4]
theorem At9 (l:List A8) (h:Lq l) (hl:l.length≤4294967296):Abj (l,())=some (true,()):=by
 have e:=Cp (B:=Im) l.length (fun i=>(l,(i:Int),())) (.inr ())
  (fun i hi=>by
   have hx:=List.getElem?_eq_getElem hi
   unfold Im
   simp only[Ae,Ai,Ac,Et hi,A0,Cb hx,Ag,A7j,h _ (List.getElem_mem hi),Bool.not_true,An]
   rw[w64 zq0]
   rfl)
  (by unfold Im;simp only[Ae,Ac,Eu,An])
 unfold Abj Aba
 simp only[Ae,Ai,Ac,Hb]
 rw[show Ay Im (l,(0:Int),())=_ from e]
 rfl
end
end Go.Proofs.YtmhhajdeafijmaaGreat

/-
  That the program and the reference answer alike, in plain terms, and that the laws answer true.
-/
import Derived.Test.YtmhhajdeafijmaaGreatL43
namespace Go.Proofs.YtmhhajdeafijmaaGreat
open Go.RowKit
set_option linter.unusedVariables false
set_option linter.unusedSimpArgs false
set_option maxRecDepth 100000
set_option maxHeartbeats 8000000
noncomputable section
theorem Tp (a:YBs):Hx a a=some (true,()):=by
 unfold Hx Alt
 simp only[Ac,decide_true]
theorem Atp (a:(List YI)×Unit) (h:a.1.length≤4294967296):Wg a a=some (true,()):=by
 have e:=Cn (B:=Hs) a.1.length (fun i=>(a.1,a.1,(i:Int),())) (.inr ())
  (fun i hi=>by
   have hx:=List.getElem?_eq_getElem hi
   unfold Hs
   simp only[Ae,Ai,Ac,Ep hi,A0,Ca hx,Ag,bne_self_eq_false,Am]
   rw[w64 zq0]
   rfl)
  (by unfold Hs;simp only[Ae,Ac,Er,Am])
 unfold Wg We
 simp only[Ae,Ai,Ac,G6,bne_self_eq_false,Am]
 rw[show Ay Hs (a.1,a.1,(0:Int),())=_ from e]
 rfl
theorem Avp (a:B5) (h:D9 a≤4294967296):Aaj a a=some (true,()):=by
 unfold Aaj Aai
 simp only[Ae,Ai,Ac,beq_self_eq_true,A0]
 rw[Atp _ (by simp only[D9]at h;dsimp only;omega),Ag]
theorem Ak2 (a:YEp) (h:Bx a≤4294967296):Ux a a=some (true,()):=by
 unfold Ux Aed
 simp only[Ae,Ai,Ac,beq_self_eq_true,A0,Tp,Ag]
 rw[Avp _ (by simp only[Bx,D9]at*;omega),Ag]
theorem Atq (a:Al) (h:Av a≤4294967296):Qf a a=some (true,()):=by
 unfold Qf Wh
 simp only[Ae,Ai,Ac,beq_self_eq_true,A0,Tp,Ag]
 rw[Ak2 _ (by simp only[Av,Bx]at*;omega)]
 simp only[Ag,A0]
 rw[Ak2 _ (by simp only[Av,Bx]at*;omega)]
 simp only[Ag,A0]
theorem A3o (b:List YB) (n:Int):Nj (b,()) (n,())=some (Vc b n,()):=by
 unfold Nj Aaf Vc
 simp only[Ae,Ac]
 cases ((b.length:Int)==0)<;>rfl
theorem A8y (x y:Bool):br x (some (y,())) (some (false,()))=some (x && y,()):=by cases x<;>rfl
theorem A5d (n:B8):Aec n=some (Jt n,()):=by
 unfold Aec Aeb Jt
 simp only[Ae,Ai,Ac,Ch,A3o,Kf,Ag,A8y]
theorem Asa (l:List B8) (h:Ld l) (hl:l.length≤4294967296):Aah (l,())=some (true,()):=by
 have e:=Cn (B:=Ie) l.length (fun i=>(l,(i:Int),())) (.inr ())
  (fun i hi=>by
   have hx:=List.getElem?_eq_getElem hi
   unfold Ie
   simp only[Ae,Ai,Ac,Ep hi,A0,Ca hx,Ag,A5d,h _ (List.getElem_mem hi),Bool.not_true,Am]
   rw[w64 zq0]
   rfl)
  (by unfold Ie;simp only[Ae,Ac,Er,Am])
 unfold Aah Aag
 simp only[Ae,Ai,Ac,G6]
 rw[show Ay Ie (l,(0:Int),())=_ from e]
 rfl
end
end Go.Proofs.YtmhhajdeafijmaaGreat

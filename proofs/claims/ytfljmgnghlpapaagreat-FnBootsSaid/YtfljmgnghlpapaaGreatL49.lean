/-
  That the program and the reference answer alike, in plain terms, and that the laws answer true.
-/
import Derived.Test.YtfljmgnghlpapaaGreatL43
namespace Go.Proofs.YtfljmgnghlpapaaGreat
open Go.RowKit
set_option linter.unusedVariables false
set_option linter.unusedSimpArgs false
set_option maxRecDepth 100000
set_option maxHeartbeats 8000000
noncomputable section
theorem Jw (a:YBs):Fl a a=some (true,()):=by
 unfold Fl Aqu
 simp only[Ab,decide_true]
theorem A0a (a:(List YI)×Unit) (h:a.1.length≤4294967296):Xv a a=some (true,()):=by
 have e:=B8 (B:=Hn) a.1.length (fun i=>(a.1,a.1,(i:Int),())) (.inr ())
  (fun i hi=>by
   have hx:=List.getElem?_eq_getElem hi
   unfold Hn
   simp only[Ac,Ae,Ab,By hi,A4,Bk hx,Ai,bne_self_eq_false,Au]
   rw[w64 zq0]
   rfl)
  (by unfold Hn;simp only[Ac,Ab,Bz,Au])
 unfold Xv W1
 simp only[Ac,Ae,Ab,Dn,bne_self_eq_false,Au]
 rw[show As Hn (a.1,a.1,(0:Int),())=_ from e]
 rfl
theorem A20 (a:Cj) (h:E6 a≤4294967296):Ac5 a a=some (true,()):=by
 unfold Ac5 Aci
 simp only[Ac,Ae,Ab,beq_self_eq_true,A4]
 rw[A0a _ (by simp only[E6]at h;dsimp only;omega),Ai]
theorem Apw (a:YEp) (h:En a≤4294967296):Vq a a=some (true,()):=by
 unfold Vq Agw
 simp only[Ac,Ae,Ab,beq_self_eq_true,A4,Jw,Ai]
 rw[A20 _ (by simp only[En,E6]at*;omega),Ai]
theorem A0b (a:Bt) (h:Bs a≤4294967296):Ql a a=some (true,()):=by
 unfold Ql W2
 simp only[Ac,Ae,Ab,beq_self_eq_true,A4,Jw,Ai]
 rw[Apw _ (by simp only[Bs,En]at*;omega)]
 simp only[Ai,A4]
 rw[Apw _ (by simp only[Bs,En]at*;omega)]
 simp only[Ai,A4]
theorem Bbi (b:List YB) (n:Int):N3 (b,()) (n,())=some (V4 b n,()):=by
 unfold N3 Acs V4
 simp only[Ac,Ab]
 cases ((b.length:Int)==0)<;>rfl
theorem Bhv (x y:Bool):br x (some (y,())) (some (false,()))=some (x && y,()):=by cases x<;>rfl
theorem Bdx (n:A6):Ahu n=some (Aek n,()):=by
 unfold Ahu Ag2 Aek
 simp only[Ac,Ae,Ab,Bw,Bbi,Ow,Ai,Bhv]
theorem Ayn (l:List A6) (h:A6p l) (hl:l.length≤4294967296):S6 (l,())=some (true,()):=by
 have e:=B8 (B:=Ie) l.length (fun i=>(l,(i:Int),())) (.inr ())
  (fun i hi=>by
   have hx:=List.getElem?_eq_getElem hi
   unfold Ie
   simp only[Ac,Ae,Ab,By hi,A4,Bk hx,Ai,Bdx,h _ (List.getElem_mem hi),Bool.not_true,Au]
   rw[w64 zq0]
   rfl)
  (by unfold Ie;simp only[Ac,Ab,Bz,Au])
 unfold S6 Acu
 simp only[Ac,Ae,Ab,Dn]
 rw[show As Ie (l,(0:Int),())=_ from e]
 rfl
end
end Go.Proofs.YtfljmgnghlpapaaGreat

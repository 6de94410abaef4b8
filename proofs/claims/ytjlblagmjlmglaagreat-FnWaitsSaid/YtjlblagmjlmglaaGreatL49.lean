/-
  That the program and the reference answer alike, in plain terms, and that the laws answer true.
-/
import Derived.Test.YtjlblagmjlmglaaGreatL47
namespace Go.Proofs.YtjlblagmjlmglaaGreat
open Go.RowKit
set_option linter.unusedVariables false
set_option linter.unusedSimpArgs false
set_option maxRecDepth 100000
set_option maxHeartbeats 8000000
noncomputable section
theorem Abb (a:YBs):Fp a a=some (true,()):=by
 unfold Fp Apj
 simp only[Ad,decide_true]
theorem Axv (a:(List YI)×Unit) (h:a.1.length≤4294967296):Zo a a=some (true,()):=by
 have e:=C5 (B:=Gu) a.1.length (fun i=>(a.1,a.1,(i:Int),())) (.inr ())
  (fun i hi=>by
   have hx:=List.getElem?_eq_getElem hi
   unfold Gu
   simp only[Ai,Aj,Ad,Zw hi,Ax,Dz hx,Al,bne_self_eq_false,Aq]
   rw[w64 zq0]
   rfl)
  (by unfold Gu;simp only[Ai,Ad,Zx,Aq])
 unfold Zo Xx
 simp only[Ai,Aj,Ad,Zz,bne_self_eq_false,Aq]
 rw[show Az Gu (a.1,a.1,(0:Int),())=_ from e]
 rfl
theorem Az2 (a:Bp) (h:D0 a≤4294967296):Acy a a=some (true,()):=by
 unfold Acy Acm
 simp only[Ai,Aj,Ad,beq_self_eq_true,Ax]
 rw[Axv _ (by simp only[D0]at h;dsimp only;omega),Al]
theorem Aoq (a:YEp) (h:Bm a≤4294967296):Wq a a=some (true,()):=by
 unfold Wq Agq
 simp only[Ai,Aj,Ad,beq_self_eq_true,Ax,Abb,Al]
 rw[Az2 _ (by simp only[Bm,D0]at*;omega),Al]
theorem Axw (a:Af) (h:A0 a≤4294967296):Zp a a=some (true,()):=by
 unfold Zp Xy
 simp only[Ai,Aj,Ad,beq_self_eq_true,Ax,Abb,Al]
 rw[Aoq _ (by simp only[A0,Bm]at*;omega)]
 simp only[Al,Ax]
 rw[Aoq _ (by simp only[A0,Bm]at*;omega)]
 simp only[Al,Ax]
theorem Ae0 (a:Aa):M5 a a=some (true,()):=by
 unfold M5 Tg
 simp only[Ai,Aj,Ad,beq_self_eq_true,Ax,Abb,Al]
theorem Asu (a:Ab) (h:An a≤4294967296):L6 a a=some (true,()):=by
 unfold L6 Qd
 simp only[Ai,Aj,Ad,beq_self_eq_true,Ax,Abb,Al,Ae0]
 rw[Axw _ (Nat.le_trans (Av8 a) zq0)]
 simp only[Al,Ax,Bool.and_true]
end
end Go.Proofs.YtjlblagmjlmglaaGreat

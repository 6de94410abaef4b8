/-
  That the program and the reference answer alike, in plain terms, and that the laws answer true.
-/
import Derived.Test.YtmhhajdeafijmaaGreatL46
namespace Go.Proofs.YtmhhajdeafijmaaGreat
open Go.RowKit
set_option linter.unusedVariables false
set_option linter.unusedSimpArgs false
set_option maxRecDepth 100000
set_option maxHeartbeats 8000000
noncomputable section
theorem Ab3 (a:YBs):Fy a a=some (true,()):=by
 unfold Fy Ap0
 simp only[Ad,decide_true]
theorem Axi (a:(List YI)×Unit) (h:a.1.length≤4294967296):Aaj a a=some (true,()):=by
 have e:=Cq (B:=Hi) a.1.length (fun i=>(a.1,a.1,(i:Int),())) (.inr ())
  (fun i hi=>by
   have hx:=List.getElem?_eq_getElem hi
   unfold Hi
   simp only[Ag,Ai,Ad,M6 hi,Aw,Dl hx,Aj,bne_self_eq_false,An]
   rw[w64 zq0]
   rfl)
  (by unfold Hi;simp only[Ag,Ad,M7,An])
 unfold Aaj Zv
 simp only[Ag,Ai,Ad,S8,bne_self_eq_false,An]
 rw[show Ay Hi (a.1,a.1,(0:Int),())=_ from e]
 rfl
theorem Azv (a:Bn) (h:Dx a≤4294967296):Adp a a=some (true,()):=by
 unfold Adp Adg
 simp only[Ag,Ai,Ad,beq_self_eq_true,Aw]
 rw[Axi _ (by simp only[Dx]at h;dsimp only;omega),Aj]
theorem Ao1 (a:YEp) (h:Bj a≤4294967296):Xe a a=some (true,()):=by
 unfold Xe Ahm
 simp only[Ag,Ai,Ad,beq_self_eq_true,Aw,Ab3,Aj]
 rw[Azv _ (by simp only[Bj,Dx]at*;omega),Aj]
theorem Axj (a:Af) (h:Ar a≤4294967296):Aak a a=some (true,()):=by
 unfold Aak Zw
 simp only[Ag,Ai,Ad,beq_self_eq_true,Aw,Ab3,Aj]
 rw[Ao1 _ (by simp only[Ar,Bj]at*;omega)]
 simp only[Aj,Aw]
 rw[Ao1 _ (by simp only[Ar,Bj]at*;omega)]
 simp only[Aj,Aw]
theorem Aui (a:Aa):T7 a a=some (true,()):=by
 unfold T7 T4
 simp only[Ag,Ai,Ad,beq_self_eq_true,Aw,Ab3,Aj]
theorem Ass (a:Ab) (h:Al a≤4294967296):Cz a a=some (true,()):=by
 unfold Cz Qw
 simp only[Ag,Ai,Ad,beq_self_eq_true,Aw,Ab3,Aj,Aui]
 rw[Axj _ (Nat.le_trans (Av0 a) zq0)]
 simp only[Aj,Aw,Bool.and_true]
theorem A7h (b:List YB) (n:Int):M0 (b,()) (n,())=some (Xq b n,()):=by
 unfold M0 Ade Xq
 simp only[Ag,Ad]
 cases ((b.length:Int)==0)<;>rfl
theorem Bda (x y:Bool):br x (some (y,())) (some (false,()))=some (x && y,()):=by cases x<;>rfl
theorem A84 (n:Ae):Ah1 n=some (Fg n,()):=by
 unfold Ah1 Ahl Fg
 simp only[Ag,Ai,Ad,Br,A7h,Ayx,Aj,Bda]
theorem A42 (l:List Aa) (h:N3 l) (hl:l.length≤4294967296):Aai (l,())=some (true,()):=by
 have e:=Cq (B:=Hh) l.length (fun i=>(l,(i:Int),())) (.inr ())
  (fun i hi=>by
   have hx:=List.getElem?_eq_getElem hi
   unfold Hh
   simp only[Ag,Ai,Ad,M6 hi,Aw,Dl hx,Aj,Ic,h _ (List.getElem_mem hi),Bool.not_true,An]
   rw[w64 zq0]
   rfl)
  (by unfold Hh;simp only[Ag,Ad,M7,An])
 unfold Aai Zt
 simp only[Ag,Ai,Ad,S8]
 rw[show Ay Hh (l,(0:Int),())=_ from e]
 rfl
theorem A7i (l:List Ae) (h:Ed l) (hl:l.length≤4294967296):Ado (l,())=some (true,()):=by
 have e:=Cq (B:=Hx) l.length (fun i=>(l,(i:Int),())) (.inr ())
  (fun i hi=>by
   have hx:=List.getElem?_eq_getElem hi
   unfold Hx
   simp only[Ag,Ai,Ad,M6 hi,Aw,Dl hx,Aj,A84,h _ (List.getElem_mem hi),Bool.not_true,An]
   rw[w64 zq0]
   rfl)
  (by unfold Hx;simp only[Ag,Ad,M7,An])
 unfold Ado Adf
 simp only[Ag,Ai,Ad,S8]
 rw[show Ay Hx (l,(0:Int),())=_ from e]
 rfl
end
end Go.Proofs.YtmhhajdeafijmaaGreat

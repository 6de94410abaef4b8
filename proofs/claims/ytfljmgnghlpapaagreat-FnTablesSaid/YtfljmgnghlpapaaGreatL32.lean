/-
  That the program and the reference answer alike, in plain terms, and that the laws answer true.
-/
import Derived.Test.YtfljmgnghlpapaaGreatL29
namespace Go.Proofs.YtfljmgnghlpapaaGreat
open Go.RowKit
set_option linter.unusedVariables false
set_option linter.unusedSimpArgs false
set_option maxRecDepth 100000
set_option maxHeartbeats 4000000
noncomputable section
def A0s:List YB:=G6 (Cq [102,105,110,105,115,104])
def A0m:List YB:=[((114:Int),()),((111:Int),()),((97:Int),()),((109:Int),())]
def Ow (p:List YB):List YB:=bif Amx (p,())then Ke (Iy A0m p) A0s else []
theorem Aqp (p:List YB):Pf (p,())=some (Ow p,()):=by
 unfold Pf O8 N7 Nr Ow
 simp only[Ah,Ai,Ab,Ajn,Ak]
 rw[Ah3,Ak,Ak,Af1 _ _ zq3,Ak]
 cases Amx (p,())<;>rfl
def Aoh (id:Int) (cn sn:List YB) (tick:Int) (ck:List YB):Bool:=inR id 1 9 && (((cn.length:Int)==12) && (((sn.length:Int)==12) && (inR tick 0 1000000 && ((ck.length:Int)==16))))
def Ox (id:Int) (cn sn:List YB) (tick:Int) (ck:List YB):List YB:=bif Aoh id cn sn tick ck then((102:Int),())::(IntKind.u8.wrap id,())::(cn++(sn++(Ha tick 4 4++ck)))else []
theorem Aqq (id:Int) (cn sn:List YB) (tick:Int) (ck:List YB):Pg (id,()) (cn,()) (sn,()) (tick,()) (ck,())=some (Ox id cn sn tick ck,()):=by
 unfold Pg O9 Ox Aoh
 simp only[Ah,Ai,Ab,Am,Dd,Ak,bne]
 cases inR id 1 9 with
 |false=>rfl
 |true=>
  cases h1:((cn.length:Int)==12)with
  |false=>rfl
  |true=>
   cases h2:((sn.length:Int)==12)with
   |false=>rfl
   |true=>
    cases inR tick 0 1000000 with
    |false=>rfl
    |true=>
     cases h3:((ck.length:Int)==16)with
     |false=>rfl
     |true=>
      have k1:(cn.length:Int)=12:=by simpa using h1
      have k2:(sn.length:Int)=12:=by simpa using h2
      have k3:(ck.length:Int)=16:=by simpa using h3
      simp only[Bool.not_true,A1,Bool.and_true,cond_true]
      rw[Ao zq1,Bd,Ao zq1,Bd,Adp _ _ zq1,Ak]
      simp only
      rw[Ao (by simp[Ry];omega),Bd]
      simp
def Ah9 (p:List YB) (id:Int) (cn sn:List YB) (tick:Int) (ck:List YB):List YB:=if (Ow p).length=0∨(Ox id cn sn tick ck).length=0 then []else An5 (Ow p) (Ox id cn sn tick ck)
theorem Au7 (p:List YB) (id:Int) (cn sn:List YB) (tick:Int) (ck:List YB):(Ah9 p id cn sn tick ck).length≤16:=by
 unfold Ah9
 split
 ·simp
 ·exact Aym _ _
theorem Ayu (p:List YB) (id:Int) (cn sn:List YB) (tick:Int) (ck:List YB):S1 (p,()) (id,()) (cn,()) (sn,()) (tick,()) (ck,())=some (Ah9 p id cn sn tick ck,()):=by
 unfold S1 Aa1 Ah9
 simp only[Ah,Ai,Ab,Aqp,Aqq,A0k,Ak]
 by_cases h1:(Ow p).length=0
 ·rw[Gj (by simp[h1]),if_pos (.inl h1)]
 ·rw[Fg (by simp;exact fun e=>h1 (by simp[e]))]
  by_cases h2:(Ox id cn sn tick ck).length=0
  ·rw[Gj (by simp[h2]),if_pos (.inr h2)]
  ·rw[Fg (by simp;exact fun e=>h2 (by simp[e])),if_neg (by rintro(q|q);exact h1 q;exact h2 q)]
end
end Go.Proofs.YtfljmgnghlpapaaGreat

/-
  That the program and the reference answer alike, in plain terms, and that the laws answer true.
-/
import Derived.Test.YtfljmgnghlpapaaGreatL56
namespace Go.Proofs.YtfljmgnghlpapaaGreat
open Go.RowKit
set_option linter.unusedVariables false
set_option linter.unusedSimpArgs false
set_option maxRecDepth 100000
set_option maxHeartbeats 8000000
noncomputable section
theorem Ajr (a:A4) (h:Av a≤4294967296):Kr a a=some (true,()):=by
 have hl:a.2.2.1.length≤Av a:=by simp only[Av];omega
 have e:=Co (B:=E7) a.2.2.1.length (fun i=>((i:Int),a.1,a.2.1,a.2.2.1,a.1,a.2.1,a.2.2.1,())) (.inr ())
  (fun i hi=>by
   have hx:=List.getElem?_eq_getElem hi
   unfold E7
   simp only[Ah,Ai,Ab,Db hi,A9,B7 hx,Ak,beq_self_eq_true,Bool.and_true,Bool.not_true,A1,Td,bne_self_eq_false]
   rw[w64 zq0]
   rfl)
  (by unfold E7;simp only[Ah,Ab,Dc,A1])
 unfold Kr Pd
 simp only[Ah,Ai,Ab,Ej,beq_self_eq_true,Bool.and_true,Bool.not_true,A1,bne_self_eq_false]
 rw[show As E7 ((0:Int),a.1,a.2.1,a.2.2.1,a.1,a.2.1,a.2.2.1,())=_ from e]
 rfl
theorem Amu (s:Af) (h:Az s≤4294967296):Rp s s=some (true,()):=by
 have:=Gl s
 unfold Rp Rb
 simp only[Ah,Ai,Ab,beq_self_eq_true,A9,Td,Ak]
 rw[show Mg _ _=_ from Amt (Ek s) zq0]
 simp only[Ak,A9]
 rw[show Kr _ _=_ from Ajr (Dq s) zq0]
 simp only[Ak,A9]
def Amy (s:Af):Af:=(s.1,s.2.1,s.2.2.1,0,[],0,[],0,0,[],0,[],0,0,[],false,0,[],0,0,[],Rt s,0,true,())
theorem Ave (s:Af) (h:Az s≤4294967296) (ho:C6 s=true):Afv s=some (Amy s):=by
 have:=Gl s
 unfold Afv Afq
 simp only[Ah,Ai,Ab,Am]
 rw[Ru s h,Ak,ho]
 simp only[Bool.not_true,A1]
 rw[Lc _ zq2,Ak,Lc _ zq2,Ak]
 rfl
theorem Atd (s:Af):Az (Amy s)≤Az s:=by
 simp only[Az,Amy,C4,List.length_nil];omega
theorem Awz {s:Af} (ho:C6 s=true):C6 (Amy s)=true:=by
 unfold C6 at ho ⊢
 simp only[Bool.and_eq_true]at ho ⊢
 exact⟨ho.1,ho.2.1,ho.2.2.1,ho.2.2.2.1,rfl⟩
end
end Go.Proofs.YtfljmgnghlpapaaGreat

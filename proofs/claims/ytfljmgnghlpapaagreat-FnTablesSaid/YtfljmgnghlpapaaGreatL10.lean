/-
  That the program and the reference answer alike, in plain terms, and that the laws answer true.
-/
import Derived.Test.YtfljmgnghlpapaaGreatL9
namespace Go.Proofs.YtfljmgnghlpapaaGreat
open Go.RowKit
set_option linter.unusedVariables false
set_option linter.unusedSimpArgs false
set_option maxHeartbeats 4000000
noncomputable section
theorem Azo (b:List YB) (h:b.length≤1048576):(sha b).length=32:=by
 unfold sha
 rw[if_pos h,Afz,(Ajm _ R0 _ (Nat.le_refl _) zq3).2.1];rfl
theorem Ah2 (b:List YB):(sha b).length≤32:=by rcases Arl b with h|h<;>omega
def Acs (k:List YB):List YB:=k++List.replicate (64-k.length) ((0:Int),())
def Ix (k:List YB):List YB:=Acs (if k.length>64 then sha k else k)
theorem Arm (k:List YB) (h:k.length≤64):As En (k,())=some (Acs k,()):=by
 have hr:=Co (B:=En) (64-k.length) (fun i=>(k++List.replicate i ((0:Int),()),())) (Acs k,())
  (fun i hi=>by
   unfold En
   simp only[Ah,Am,Ab]
   rw[Ao zq1,A9,Ao zq1,Bd,List.append_assoc,←List.replicate_succ'])
  (by
   unfold En
   simp only[Ah,Am,Ab]
   rw[Bn zq1,A1];rfl)
 simpa using hr
theorem Asx (k:List YB) (h:k.length≤64):(Acs k).length=64:=by unfold Acs;simp;omega
theorem Acu (k:List YB):(Ix k).length=64:=by
 unfold Ix
 refine Asx _ ?_
 split
 ·have:=Ah2 k;omega
 ·omega
theorem Asy (k:List YB) (h:k.length≤1048576):Rd (k,())=some (Ix k,()):=by
 unfold Rd Qn Ix
 simp only[Ah,Ai,Ab,Am,List.nil_append,List.length_nil,Nat.zero_add]
 rw[Bn zq0,A1,Ao zq0,Bd,show Jc=En from rfl]
 by_cases h1:k.length>64
 ·have:=Ah2 k
  rw[Ao zq0,A9,Asw,Ak,Arm _ zq0,if_pos h1];rfl
 ·rw[Bn zq0,A1,Arm _ zq0,if_neg h1];rfl
def Azp (x c:Int):YB:=(IntKind.u8.wrap ((BitVec.ofInt (IntKind.u8.bits) x ^^^ BitVec.ofInt (IntKind.u8.bits) c).toNat:Nat),())
def Fv (k:List YB) (c:Int):List YB:=k.map fun x=>Azp x.1 c
theorem Mm (k:List YB) (c:Int):(Fv k c).length=k.length:=by simp[Fv]
theorem Aex (k:List YB) (x:YB) (c:Int):Fv (k++[x]) c=Fv k c++[Azp x.1 c]:=by simp[Fv]
theorem Ayk (m k:List YB) (h:k.length=64):As Jd (m,k,[],[],(0:Int),())=some (m,Fv k 54,Fv k 92,()):=by
 have hr:=Co (B:=Jd) 64 (fun i=>(m,k,Fv (k.take i) 54,Fv (k.take i) 92,(i:Int),())) (m,Fv k 54,Fv k 92,())
  (fun i hi=>by
   have hx:=List.getElem?_eq_getElem (show i<k.length by omega)
   unfold Jd
   simp only[Ah,Ai,Ab,Am]
   rw[Ao zq0,A9,B7 hx]
   simp only[Ak]
   rw[Ao (by simp[Mm];omega),Bd,Ao (by simp[Mm];omega),Bd,w64 zq0,←Ew hx,Aex,Aex]
   rfl)
  (by unfold Jd;simp only[Ah,Ab,Ai,Am];rw[Bn zq0,A1,←h,List.take_length])
 exact hr
def Iy (k m:List YB):List YB:=if k.length>1048576 then []else if m.length>1048512 then []else sha (Fv (Ix k) 92++sha (Fv (Ix k) 54++m))
theorem Ah3 (k m:List YB):Re (k,()) (m,())=some (Iy k m,()):=by
 have hb:=Acu k
 unfold Re Afg Iy
 simp only[Ah,Ai,Ab,Am]
 by_cases h1:k.length>1048576
 ·rw[Ao zq0,A9,if_pos h1]
 rw[Bn zq0,A1,if_neg h1]
 by_cases h2:m.length>1048512
 ·rw[Ao zq0,A9,if_pos h2]
 have hs:=Ah2 (Fv (Ix k) 54++m)
 rw[Bn zq0,A1,if_neg h2,Asy _ zq0,Ak,Ayk _ _ hb,Ak]
 simp only
 rw[Ao (by simp[Mm];omega),Bd,Asw,Ak,Ao (by simp[Mm];omega),Bd,Asw,Ak]
theorem An4 (k m:List YB):(Iy k m).length=32∨(Iy k m).length=0:=by
 unfold Iy
 split
 ·exact .inr rfl
 split
 ·exact .inr rfl
 exact Arl _
theorem Ayl (k m:List YB) (h1:k.length≤1048576) (h2:m.length≤1048512):(Iy k m).length=32:=by
 have hb:=Acu k
 have hs:=Ah2 (Fv (Ix k) 54++m)
 unfold Iy
 rw[if_neg zq0,if_neg zq0]
 exact Azo _ (by simp[Mm];omega)
def An5 (k m:List YB):List YB:=(Iy k m).take 16
theorem A0k (k m:List YB):Ajh (k,()) (m,())=some (An5 k m,()):=by
 unfold Ajh Ai9 An5
 simp only[Ah,Ai,Ab,Am,Ah3,Ak,List.nil_append,List.length_nil,Nat.zero_add]
 rcases An4 k m with h|h
 ·rw[Bn zq0,A1,Ao zq0,Bd]
  simp only[show(16:Int).toNat=16 from rfl,show(0:Int).toNat=0 from rfl,List.drop_zero]
  rw[Ao zq1,Bd]
 ·rw[Ao zq0,A9,List.eq_nil_of_length_eq_zero h];rfl
theorem Aym (k m:List YB):(An5 k m).length≤16:=by unfold An5;simp;omega
end
end Go.Proofs.YtfljmgnghlpapaaGreat

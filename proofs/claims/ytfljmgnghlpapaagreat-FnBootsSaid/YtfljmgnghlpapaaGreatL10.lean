/-
  That the program and the reference answer alike, in plain terms, and that the laws answer true.
-/
import Derived.Test.YtfljmgnghlpapaaGreatL9
namespace Go.Proofs.YtfljmgnghlpapaaGreat
open Go.RowKit
set_option linter.unusedVariables false
set_option linter.unusedSimpArgs false
set_option maxHeartbeats 4000000
noncomputable section
theorem Bgq (b:List YB) (h:b.length≤1048576):(sha b).length=32:=by
 unfold sha
 rw[if_pos h,Ah3,(Aeh _ Ej _ (Nat.le_refl _) zq4).2.1];rfl
theorem Aei (b:List YB):(sha b).length≤32:=by rcases A6n b with h|h<;>omega
def Ams (k:List YB):List YB:=k++List.replicate (64-k.length) ((0:Int),())
def Ek (k:List YB):List YB:=Ams (if k.length>64 then sha k else k)
theorem An0 (k:List YB) (h:k.length≤64):As E9 (k,())=some (Ams k,()):=by
 have hr:=B8 (B:=E9) (64-k.length) (fun i=>(k++List.replicate i ((0:Int),()),())) (Ams k,())
  (fun i hi=>by
   unfold E9
   simp only[Ac,Al,Ab]
   rw[An zq1,A4,An zq1,A8,List.append_assoc,←List.replicate_succ'])
  (by
   unfold E9
   simp only[Ac,Al,Ab]
   rw[Bj zq1,Au];rfl)
 simpa using hr
theorem A8c (k:List YB) (h:k.length≤64):(Ams k).length=64:=by unfold Ams;simp;omega
theorem X7 (k:List YB):(Ek k).length=64:=by
 unfold Ek
 refine A8c _ ?_
 split
 ·have:=Aei k;omega
 ·omega
theorem A8d (k:List YB) (h:k.length≤1048576):Xs (k,())=some (Ek k,()):=by
 unfold Xs Wz Ek
 simp only[Ac,Ae,Ab]
 rw[Bj zq0,Au,Dv _ zq2,Ai]
 by_cases h1:k.length>64
 ·have:=Aei k
  rw[An zq0,A4,A8b _ zq0,Ai,An0 _ zq0,if_pos h1];rfl
 ·rw[Bj zq0,Au,An0 _ zq0,if_neg h1];rfl
theorem A8e (k:List YB) (h:k.length≤1048576):Xe (k,())=some (Ek k,()):=by
 unfold Xe Wb Ek
 simp only[Ac,Ae,Ab,Al,List.nil_append,List.length_nil,Nat.zero_add]
 rw[Bj zq0,Au,An zq0,A8,show Mr=E9 from rfl]
 by_cases h1:k.length>64
 ·have:=Aei k
  rw[An zq0,A4,A8a,Ai,An0 _ zq0,if_pos h1];rfl
 ·rw[Bj zq0,Au,An0 _ zq0,if_neg h1];rfl
def Bgr (x c:Int):YB:=(IntKind.u8.wrap ((BitVec.ofInt (IntKind.u8.bits) x ^^^ BitVec.ofInt (IntKind.u8.bits) c).toNat:Nat),())
def Ec (k:List YB) (c:Int):List YB:=k.map fun x=>Bgr x.1 c
theorem Ahw (k:List YB) (c:Int):(Ec k c).length=k.length:=by simp[Ec]
theorem Adc (k:List YB) (x:YB) (c:Int):Ec (k++[x]) c=Ec k c++[Bgr x.1 c]:=by simp[Ec]
theorem A2e (k:List YB) (c:Int) (h:k.length≤1048576):Vp (k,()) (c,())=some (Ec k c,()):=by
 have hr:=B8 (B:=Ji) k.length (fun i=>(c,Ec (k.take i) c,k,(k.length:Int),(i:Int),())) (Ec k c,())
  (fun i hi=>by
   have hx:=List.getElem?_eq_getElem hi
   unfold Ji
   simp only[Ac,Ae,Ab,Al,By hi,A4,Bk hx,Ai]
   rw[An zq5,A8,w64 zq0,←Dg hx,Adc]
   rfl)
  (by unfold Ji;simp only[Ac,Ab,Bz,Au,List.take_length])
 unfold Vp Agq
 simp only[Ae,Ab]
 rw[show As Ji (c,[],k,(k.length:Int),(0:Int),())=_ from hr]
 rfl
theorem Bfc (m k:List YB) (h:k.length=64):As Ms (m,k,[],[],(0:Int),())=some (m,Ec k 54,Ec k 92,()):=by
 have hr:=B8 (B:=Ms) 64 (fun i=>(m,k,Ec (k.take i) 54,Ec (k.take i) 92,(i:Int),())) (m,Ec k 54,Ec k 92,())
  (fun i hi=>by
   have hx:=List.getElem?_eq_getElem (show i<k.length by omega)
   unfold Ms
   simp only[Ac,Ae,Ab,Al]
   rw[An zq0,A4,Bk hx]
   simp only[Ai]
   rw[An zq5,A8,An zq5,A8,w64 zq0,←Dg hx,Adc,Adc]
   rfl)
  (by unfold Ms;simp only[Ac,Ab,Ae,Al];rw[Bj zq0,Au,←h,List.take_length])
 exact hr
def Fd (k m:List YB):List YB:=if k.length>1048576 then []else if m.length>1048512 then []else sha (Ec (Ek k) 92++sha (Ec (Ek k) 54++m))
theorem A2f (k m:List YB):Rr (k,()) (m,())=some (Fd k m,()):=by
 have hb:=X7 k
 unfold Rr Aqr Fd
 simp only[Ac,Ae,Ab]
 by_cases h1:k.length>1048576
 ·rw[An zq0,A4,if_pos h1]
 rw[Bj zq0,Au,if_neg h1]
 by_cases h2:m.length>1048512
 ·rw[An zq0,A4,if_pos h2]
 have hs:=Aei (Ec (Ek k) 54++m)
 rw[Bj zq0,Au,if_neg h2,A8d _ zq0,Ai,A2e _ _ zq0,Ai,A2e _ _ zq0,Ai,Rx _ (by simp[cat,Ahw];omega) zq3,Ai,
  show cat [(Ec (Ek k) 54,()),(m,())]=Ec (Ek k) 54++m by simp[cat],A8b _ zq5,Ai,Rx _ (by simp[cat,Ahw];omega) zq3,Ai,
  show cat [(Ec (Ek k) 92,()),(sha (Ec (Ek k) 54++m),())]=Ec (Ek k) 92++sha (Ec (Ek k) 54++m) by simp[cat],A8b _ zq5,Ai]
theorem Amt (k m:List YB):Rp (k,()) (m,())=some (Fd k m,()):=by
 have hb:=X7 k
 unfold Rp Aqb Fd
 simp only[Ac,Ae,Ab,Al]
 by_cases h1:k.length>1048576
 ·rw[An zq0,A4,if_pos h1]
 rw[Bj zq0,Au,if_neg h1]
 by_cases h2:m.length>1048512
 ·rw[An zq0,A4,if_pos h2]
 have hs:=Aei (Ec (Ek k) 54++m)
 rw[Bj zq0,Au,if_neg h2,A8e _ zq0,Ai,Bfc _ _ hb,Ai]
 simp only
 rw[An zq5,A8,A8a,Ai,An zq5,A8,A8a,Ai]
theorem Ard (k m:List YB):(Fd k m).length=32∨(Fd k m).length=0:=by
 unfold Fd
 split
 ·exact .inr rfl
 split
 ·exact .inr rfl
 exact A6n _
theorem Rz (k m:List YB) (h1:k.length≤1048576) (h2:m.length≤1048512):(Fd k m).length=32:=by
 have hb:=X7 k
 have hs:=Aei (Ec (Ek k) 54++m)
 unfold Fd
 rw[if_neg zq0,if_neg zq0]
 exact Bgq _ zq5
def Ade (k m:List YB):List YB:=(Fd k m).take 16
theorem Bhs (k m:List YB):Anv (k,()) (m,())=some (Ade k m,()):=by
 unfold Anv Avx Ade
 simp only[Ac,Ae,Ab,Al,A2f,Ai]
 rcases Ard k m with h|h
 ·rw[Em (by simp[h]),An zq0,A8]
  simp only[show(16:Int).toNat=16 from rfl,show(0:Int).toNat=0 from rfl,List.drop_zero]
  rw[Dv _ zq1,Ai]
 ·rw[Fu (by simp[h]),List.eq_nil_of_length_eq_zero h];rfl
theorem Be0 (k m:List YB):Anu (k,()) (m,())=some (Ade k m,()):=by
 unfold Anu Avh Ade
 simp only[Ac,Ae,Ab,Al,Amt,Ai,List.nil_append,List.length_nil,Nat.zero_add]
 rcases Ard k m with h|h
 ·rw[Bj zq0,Au,An zq0,A8]
  simp only[show(16:Int).toNat=16 from rfl,show(0:Int).toNat=0 from rfl,List.drop_zero]
  rw[An zq1,A8]
 ·rw[An zq0,A4,List.eq_nil_of_length_eq_zero h];rfl
theorem Bfd (k m:List YB):(Ade k m).length≤16:=by unfold Ade;simp;omega
end
end Go.Proofs.YtfljmgnghlpapaaGreat

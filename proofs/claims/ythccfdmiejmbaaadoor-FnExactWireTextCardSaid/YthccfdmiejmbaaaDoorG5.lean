/-
  That the program and the reference answer alike, in plain terms, and that the laws answer true.
-/
import Derived.Test.YthccfdmiejmbaaaDoorG2
namespace Go.Proofs.YthccfdmiejmbaaaDoor
open Go.RowKit
set_option linter.unusedVariables false
set_option linter.unusedSimpArgs false
set_option maxRecDepth 100000
set_option maxHeartbeats 8000000
noncomputable section
theorem Xc {n:Int} (h:0<=n/\n<=255):Ei [((n:Int),())]=n:=by
 unfold Ei
 simp only[List.foldl_cons,List.foldl_nil]
 rw[w64 (n:=n) zq0,show IntKind.i64.wrap ((0:Int)*256)=0 by decide,w64 zq0]
 omega
theorem Sj {k n:Int} (h:Ez k n=true):n<=40:=by
 unfold Ez at h
 cases k1:k==4<;>rw[k1]at h<;>simp only[cond_true,cond_false,decide_eq_true_eq]at h
 .cases k2:k==5<;>rw[k2]at h<;>simp only[cond_true,cond_false,beq_iff_eq]at h
  .cases k3:k==6<;>rw[k3]at h<;>simp only[cond_true,cond_false,beq_iff_eq]at h<;>omega
  .omega
 .exact h
theorem Xd {f:A0} (h:A8 f=true):Ce f<=200:=by
 unfold A8 at h
 simp only[Ce]
 cases hs:inR f.1 4 8 with
 |true=>
  rw[hs]at h
  simp only[cond_true,Bool.and_eq_true,beq_iff_eq,Ig]at h
  obtain⟨h1,h2,h3,h4,h5,h6,h7,h8,h9,h10⟩:=h
  have h9':=Sj h9
  omega
 |false=>
  rw[hs]at h
  simp only[cond_false,Bool.and_eq_true,beq_iff_eq]at h
  obtain⟨h1,h2,h3,h4,h5,h⟩:=h
  cases k1:f.1==1 with
  |true=>
   rw[k1]at h
   simp only[cond_true,Bool.and_eq_true,beq_iff_eq,Ig]at h
   omega
  |false=>
   rw[k1]at h
   simp only[cond_false]at h
   cases k2:f.1==2 with
   |true=>
    rw[k2]at h
    simp only[cond_true,Bool.and_eq_true,beq_iff_eq,Ig]at h
    omega
   |false=>
    rw[k2]at h
    simp only[cond_false,Bool.and_eq_true,beq_iff_eq,Ig]at h
    omega
theorem Wc (b:List YB) (n:Int) (hn:0<=n) (hl:b.length<=4294967296):Am (b,()) (n,())=some ((b.take n.toNat,()),(b.drop n.toNat,())):=by
 unfold Am Mw
 simp only[Ao,Aw,Ah,A5]
 by_cases h:(b.length:Int)<n
 .rw[if_pos h,Aj zq0,Aj zq0,An,An,Wb _ zq2]
  simp only[Ap,An,Int.toNat_natCast,List.take_length,Int.toNat_zero,List.drop_zero,List.drop_length]
  rw[List.take_of_length_le zq0,List.drop_eq_nil_of_le zq0]
 .rw[if_neg h,Aj zq0,Aj zq0,Aj zq0,An,An,Wb _ zq2]
  simp only[Ap,An,Int.toNat_natCast,List.take_length,Int.toNat_zero,List.drop_zero]
theorem Aaz (b:List YB) (n:Int) (hn:0<=n) (hl:b.length<=4294967296):Ba (b,()) (n,())=some ((Gr (b.take n.toNat) 0 n).1,(b.drop n.toNat,())):=by
 unfold Ba K3
 simp only[Ao,Aw,Ah,A5]
 rw[Wc b n hn hl]
 simp only[Ap]
 rw[Ac9 _ _ _ zq2]
 simp only[Ap]
end
end Go.Proofs.YthccfdmiejmbaaaDoor

/-
  That the program and the reference answer alike, in plain terms, and that the laws answer true.
-/
import Derived.Test.YthccfdmiejmbaaaDoorG3
namespace Go.Proofs.YthccfdmiejmbaaaDoor
open Go.RowKit
set_option linter.unusedVariables false
set_option linter.unusedSimpArgs false
set_option maxRecDepth 100000
set_option maxHeartbeats 8000000
noncomputable section
theorem Acm {n:Int} (h:0<=n/\n<=255):Fm [((n:Int),())]=n:=by
 unfold Fm
 simp only[List.foldl_cons,List.foldl_nil]
 rw[w64 (n:=n) zq1,show IntKind.i64.wrap ((0:Int)*256)=0 by decide,w64 zq1]
 omega
theorem Wq {k n:Int} (h:F7 k n=true):n<=40:=by
 unfold F7 at h
 cases k1:k==4<;>rw[k1]at h<;>simp only[cond_true,cond_false,decide_eq_true_eq]at h
 .cases k2:k==5<;>rw[k2]at h<;>simp only[cond_true,cond_false,beq_iff_eq]at h
  .cases k3:k==6<;>rw[k3]at h<;>simp only[cond_true,cond_false,beq_iff_eq]at h<;>omega
  .omega
 .exact h
theorem Acn {f:A5} (h:Bh f=true):Bq f<=200:=by
 unfold Bh at h
 simp only[Bq]
 cases hs:inR f.1 4 8 with
 |true=>
  rw[hs]at h
  simp only[cond_true,Bool.and_eq_true,beq_iff_eq,Ke]at h
  obtain⟨h1,h2,h3,h4,h5,h6,h7,h8,h9,h10⟩:=h
  have h9':=Wq h9
  omega
 |false=>
  rw[hs]at h
  simp only[cond_false,Bool.and_eq_true,beq_iff_eq]at h
  obtain⟨h1,h2,h3,h4,h5,h⟩:=h
  cases k1:f.1==1 with
  |true=>
   rw[k1]at h
   simp only[cond_true,Bool.and_eq_true,beq_iff_eq,Ke]at h
   omega
  |false=>
   rw[k1]at h
   simp only[cond_false]at h
   cases k2:f.1==2 with
   |true=>
    rw[k2]at h
    simp only[cond_true,Bool.and_eq_true,beq_iff_eq,Ke]at h
    omega
   |false=>
    rw[k2]at h
    simp only[cond_false,Bool.and_eq_true,beq_iff_eq,Ke]at h
    omega
theorem Abm (b:List YB) (n:Int) (hn:0<=n) (hl:b.length<=4294967296):Ax (b,()) (n,())=some ((b.take n.toNat,()),(b.drop n.toNat,())):=by
 unfold Ax P2
 simp only[Am,Ar,Ad,Aw]
 by_cases h:(b.length:Int)<n
 .rw[if_pos h,Al zq1,Al zq1,Au,Au,Vi _ zq0]
  simp only[As,Au,Int.toNat_natCast,List.take_length,Int.toNat_zero,List.drop_zero,List.drop_length]
  rw[List.take_of_length_le zq1,List.drop_eq_nil_of_le zq1]
 .rw[if_neg h,Al zq1,Al zq1,Al zq1,Au,Au,Vi _ zq0]
  simp only[As,Au,Int.toNat_natCast,List.take_length,Int.toNat_zero,List.drop_zero]
theorem Afk (b:List YB) (n:Int) (hn:0<=n) (hl:b.length<=4294967296):Bl (b,()) (n,())=some ((Ic (b.take n.toNat) 0 n).1,(b.drop n.toNat,())):=by
 unfold Bl Nz
 simp only[Am,Ar,Ad,Aw]
 rw[Abm b n hn hl]
 simp only[As]
 rw[Ahm _ _ _ zq0]
 simp only[As]
end
end Go.Proofs.YthccfdmiejmbaaaDoor

/-
  That the program and the reference answer alike, in plain terms, and that the laws answer true.
-/
import Derived.Test.YthccfdmiejmbaaaDoorW
namespace Go.Proofs.YthccfdmiejmbaaaDoor
open Go.RowKit
set_option linter.unusedVariables false
set_option linter.unusedSimpArgs false
set_option maxHeartbeats 4000000
noncomputable section
theorem Gp {α:Type} {l:List α} {i:Nat} {x:α} (h:l[i]? =some x):idx l (i:Int)=some x:=(Adz l i).trans h
theorem T1 {i n:Nat} (h:i<n):decide ((i:Int)<(n:Int))=true:=by simpa using h
theorem T2 (n:Nat):decide ((n:Int)<(n:Int))=false:=by simp
theorem Li {α:Type} [BEq α] [LawfulBEq α] (a:α):(a != a)=false:=by simp
theorem Aj {p:Prop} [Decidable p] (h:p):decide p=true:=by simpa using h
theorem De {p:Prop} [Decidable p] (h: ¬p):decide p=false:=by simpa using h
theorem Tk {ρ:Type} {b:Bool} {x y:Option ρ} (h:b=false):br b x y=y:=by subst h;rfl
theorem W6 {ρ:Type} {b:Bool} {x y:Option ρ} (h:b=true):br b x y=x:=by subst h;rfl
theorem ml {n:Nat} (h:n<=maxLen):n<=9223372036854775807:=by unfold maxLen at h;omega
def Cp (d:Br):Nat:=d.2.2.2.2.1.length
def Ie (d:Br):Prop:=d.2.2.2.2.1.length<=9223372036854775807
def Ew (d:Bv):Nat:=0
def Ab5 (d:Bv):Prop:=True
def Ce (d:A0):Nat:=d.2.2.1.length+d.2.2.2.1.length+d.2.2.2.2.2.1.length+d.2.2.2.2.2.2.1.length+d.2.2.2.2.2.2.2.2.2.1.length+d.2.2.2.2.2.2.2.2.2.2.1.length
theorem Aas (d:List YB×Unit) (n:Int) (h0: -1<=n) (h1:n<=1099511627776) (hl:d.1.length<=9223372036854775807):Jz d (n,())=some (szR (d.1.length) n,()):=by
 unfold Jz Jt
 simp only[Ao,Ah]
 simp (disch:=omega) only[w64]
 unfold szR
 rw[W7]
 by_cases h:(d.1.length:Int)<=n
 .simp only[decide_eq_true_eq,if_neg (show ¬(n-(d.1.length:Int)<0) by omega),if_pos h]
 .simp only[decide_eq_true_eq,if_pos (show n-(d.1.length:Int)<0 by omega),if_neg h]
theorem Aat (d:List YB×Unit) (h:d.1.length<=4294967296):J0 d=some d:=by
 have e:=fun(m:List YB) (hm:m.length=d.1.length)=>Ab6 (B:=Ee) (m:=m) (l:=d.1) (ok:=fun _=>True) (fun m i x y hx hi hy=>by
  unfold Ee
  simp only[Ao,Aw,Ah,A5,Ey,T1 hi,Bu,Gp hx,Gp hy,Ap,Int.toNat_natCast]
  rw[w64 (by omega)]) (fun m=>by
  unfold Ee
  simp only[Ao,Aw,Ah,A5,Ey,T2,Be]) hm
 unfold J0 Ju
 simp only[Ao,Aw,Ah,A5,Ey,decide_true]
 rw[Aj (by omega),Aj (by omega),An,An,An,e _ (by simp)]
 rfl
theorem T3 (d:List YB×Unit) (h:d.1.length<=4294967296):J2 d d=some (true,()):=by
 have e:=Ab7 (B:=Eg) (l:=d.1) (fun i x hx hi=>by
  unfold Eg
  simp only[Ao,Aw,Ah,A5,Ey,T1 hi,Bu,Gp hx,Ap,Li,Be]
  rw[w64 (by omega)]) (by
  unfold Eg
  simp only[Ao,Aw,Ah,A5,Ey,T2,Be])
 unfold J2 Jy
 simp only[Ao,Aw,Ah,A5,Ey,Li,Be]
 rw[e]
 rfl
theorem Ab8 (d:Bv):H7 d=some d:=by
 have hn:Ew d=0:=rfl
 unfold H7 Ks
 simp only[Ao,Aw,Ah,A5,Ey]
 skip
 all_goals rfl
theorem Ab9 (d:Bv):H9 d d=some (true,()):=by
 have hn:Ew d=0:=rfl
 unfold H9 K8
 simp (disch:=first|omega|(simp only[Ew];omega)) only[Ao,Aw,Ah,A5,Ey,Li,beq_self_eq_true,Be,Ap,Bool.not_true,T3]
theorem Aca (d:Br) (n:Int) (h0: -1<=n) (h1:n<=1099511627776) (hl:Ie d):Lb d (n,())=some (szR (Cp d) n,()):=by
 unfold Ie at hl
 skip
 unfold Lb Kr
 simp only[Ao,Aw,Ah,A5,Ey]
 simp (disch:=first|omega|(dsimp only;omega)|exact Ac7 _ _|exact Ac8 (by omega) (by omega)|((repeat' (first|assumption|apply And.intro));done)|((first|unfold Ie|unfold Ab5);dsimp only;(repeat' (first|assumption|apply And.intro));done)) only[Aas,Ap,Acb]
 all_goals try simp (disch:=first|omega|(simp only[Cp,Ew];omega)) only[Ad4]
 all_goals (first|rfl|(refine congrArg (fun t=>some (szR t n,())) ?_;simp only[Cp,Ew];omega))
theorem Acc (d:Br) (h:Cp d<=4294967296):Gl d=some d:=by
 have hn:Cp d=d.2.2.2.2.1.length:=rfl
 unfold Gl Kt
 simp only[Ao,Aw,Ah,A5,Ey]
 simp (disch:=first|omega|(simp only[Cp,Ew];omega)) only[Aat,Ab8,Ap]
 all_goals rfl
theorem Acd (d:Br) (h:Cp d<=4294967296):Lh d d=some (true,()):=by
 have hn:Cp d=d.2.2.2.2.1.length:=rfl
 unfold Lh K9
 simp (disch:=first|omega|(simp only[Cp,Ew];omega)) only[Ao,Aw,Ah,A5,Ey,Li,beq_self_eq_true,Be,Ap,Bool.not_true,T3,Ab9]
theorem Ad5 (d:Br) (h:Ds [.int .i64,.int .i64,.int .i64,.int .i64,.sl 5 [.int .u8]] d):Ie d:=by
 simp only[Ds,wfD]at h
 unfold Ie
 exact ml h.2.2.2.2.1.1
theorem zq0 {p:Prop} (h:p:=by omega):p:=h
theorem zq1 {p:Prop} (h:p:=by simp[F0];omega):p:=h
theorem zq2 {p:Prop} (h:p:=by simp;omega):p:=h
end
end Go.Proofs.YthccfdmiejmbaaaDoor

/-
  That the program and the reference answer alike, in plain terms, and that the laws answer true.
-/
import Derived.Test.YtjlblagmjlmglaaGreatL59
namespace Go.Proofs.YtjlblagmjlmglaaGreat
open Go.RowKit
set_option linter.unusedVariables false
set_option linter.unusedSimpArgs false
set_option maxRecDepth 100000
set_option maxHeartbeats 16000000
noncomputable section
theorem Wz {d w k:Int}:Cu ((true,d,w,k,()):Bg)=true↔(0≤d∧d≤1000008)∧(1≤k∧k≤5)∧(w=1∨w=2∨w=4∨w=8):=by
 unfold Cu
 simp only[Bool.not_true,cond_false,Bool.and_eq_true,Bool.or_eq_true,Bf,beq_iff_eq]
theorem Adi (n:YI) (hn:0≤n.1∧n.1≤1000000):Cj n=some (true,n.1+1,1,1,())∧Cu ((true,n.1+1,1,1,()):Bg)=true:=by
 constructor
 ·unfold Cj G8
  simp only[Ai,Aj,Ad,Bv,Al,Bf.2 hn,Bool.not_true,Aq]
  rw[w64 zq0]
 ·exact Wz.2 ⟨by omega,by omega,.inl rfl⟩
def Jr (i:Int) (p:List YB) (a:Dk):Ab:=(i,p,a.1,a.2.1,(0:Int),[],(0:Int),(0:Int),[],[],(0:Int),[],[],(0:Int),(0:Int),[],[],(0:Int),[],(0:Int),[],(0:Int),(0:Int),[],(0:Int),[],(0:Int),(0:Int),[],false,(0:Int),[],false,(0:Int),(0:Int),(0:Int),false,(0:Int),(0:Int),(0:Int),(0:Int),())
def Dl (i:Int) (p:List YB) (a:Dk) (b:List YB) (t:Bg):Ab:=(i,p,a.1,a.2.1,(1:Int),b,(0:Int),(0:Int),[],[],(0:Int),[],[],(0:Int),(0:Int),[],[],(0:Int),[],(0:Int),[],(0:Int),(0:Int),[],(0:Int),[],(0:Int),(0:Int),[],false,(0:Int),[],t.1,t.2.1,t.2.2.1,t.2.2.2.1,false,(0:Int),(0:Int),(0:Int),(0:Int),())
theorem Az3 (i:Int) (p:List YB) (a:Dk) (hi:1≤i∧i≤9) (hp:F9 (p,())=true) (ha:Fz a=true):Gd (i,()) (p,()) a=some (Jr i p a)∧Bk (Jr i p a)=true:=by
 have hl:=Bf.1 (show inR (p.length:Int) 1 32=true from hp)
 constructor
 ·unfold Gd Jy Jr
  simp only[Ai,Aj,Ap,Ad,Bv,W4,Aho,Bf.2 hi,hp,ha,Al,Bool.not_true,Aq,List.length_nil,Nat.zero_add,List.nil_append]
  rw[Ao zq0,A8]
 ·unfold Bk
  rw[show clT (Jr i p a)=(false,(0:Int),(0:Int),(0:Int),())from rfl,show Ez (Jr i p a)=((0:Int),(0:Int),[],[],(0:Int),[],[],(0:Int),(0:Int),[],[],())from rfl,show Cw (Jr i p a)=((0:Int),[],(0:Int),[],(0:Int),(0:Int),[],(0:Int),[],(0:Int),(0:Int),[],false,(0:Int),[],())from rfl,show clR (Jr i p a)=(false,(0:Int),(0:Int),(0:Int),())from rfl]
  unfold Jr
  simp only[Bf.2 hi,hp,show Fz (a.1,a.2.1,())=true from ha,Bool.true_and,show((0:Int)==0)=true from rfl,cond_true]
  decide
theorem Ah9 {i:Int} {p:List YB} {a:Dk} {b:List YB} {t:Bg} (hi:1≤i∧i≤9) (hp:F9 (p,())=true) (ha:Fz a=true) (hb:b.length=12) (ht:t.1=true∧Cu t=true):Bk (Dl i p a b t)=true:=by
 unfold Bk
 rw[show clT (Dl i p a b t)=t from rfl,show Ez (Dl i p a b t)=((0:Int),(0:Int),[],[],(0:Int),[],[],(0:Int),(0:Int),[],[],())from rfl,show Cw (Dl i p a b t)=((0:Int),[],(0:Int),[],(0:Int),(0:Int),[],(0:Int),[],(0:Int),(0:Int),[],false,(0:Int),[],())from rfl,show clR (Dl i p a b t)=(false,(0:Int),(0:Int),(0:Int),())from rfl]
 unfold Dl
 simp only[Bf.2 hi,hp,show Fz (a.1,a.2.1,())=true from ha,Bool.true_and,hb,ht.1,ht.2,show((1:Int)==0)=false from rfl,show((1:Int)==1)=true from rfl,cond_true,cond_false]
 decide
end
end Go.Proofs.YtjlblagmjlmglaaGreat

/-
  That the program and the reference answer alike, in plain terms, and that the laws answer true.
-/
import Derived.Test.YtfljmgnghlpapaaGreatL29
namespace Go.Proofs.YtfljmgnghlpapaaGreat
open Go.RowKit
set_option linter.unusedVariables false
set_option linter.unusedSimpArgs false
set_option maxRecDepth 100000
set_option maxHeartbeats 4000000
noncomputable section
def Bh3:List YB:=Eg (Bq [102,105,110,105,115,104])
def Bht:List YB:=[((114:Int),()),((111:Int),()),((97:Int),()),((109:Int),())]
def T2 (p:List YB):List YB:=bif Qt (p,())then Jl (Fd Bht p) Bh3 else []
theorem A5p (p:List YB):Uv (p,())=some (T2 p,()):=by
 unfold Uv Uf Sw Sf T2
 simp only[Ac,Ae,Ab,An1,Ai]
 rw[Amt,Ai,Ai,Ah7 _ _ zq4,Ai]
 cases Qt (p,())<;>rfl
def A2y (id:Int) (cn sn:List YB) (tick:Int) (ck:List YB):Bool:=inR id 1 9 && (((cn.length:Int)==12) && (((sn.length:Int)==12) && (inR tick 0 1000000 && ((ck.length:Int)==16))))
def T3 (id:Int) (cn sn:List YB) (tick:Int) (ck:List YB):List YB:=bif A2y id cn sn tick ck then((102:Int),())::(IntKind.u8.wrap id,())::(cn++(sn++(Eu tick 4 4++ck)))else []
theorem A5q (id:Int) (cn sn:List YB) (tick:Int) (ck:List YB):Uw (id,()) (cn,()) (sn,()) (tick,()) (ck,())=some (T3 id cn sn tick ck,()):=by
 unfold Uw Ug T3 A2y
 simp only[Ac,Ae,Ab,Al,Df,Ai,bne]
 cases inR id 1 9 with
 |false=>rfl
 |true=>
  cases h1:((cn.length:Int)==12)with
  |false=>rfl
  |true=>
   cases h2:((sn.length:Int)==12)with
   |false=>rfl
   |true=>
    cases inR tick 0 1000000 with
    |false=>rfl
    |true=>
     cases h3:((ck.length:Int)==16)with
     |false=>rfl
     |true=>
      have k1:(cn.length:Int)=12:=by simpa using h1
      have k2:(sn.length:Int)=12:=by simpa using h2
      have k3:(ck.length:Int)=16:=by simpa using h3
      simp only[Bool.not_true,Au,Bool.and_true,cond_true]
      rw[An zq1,A8,An zq1,A8,Rw _ _ zq1,Ai]
      simp only
      rw[An (by simp[E7];omega),A8]
      simp
def Aud (p:List YB) (id:Int) (cn sn:List YB) (tick:Int) (ck:List YB):List YB:=if (T2 p).length=0∨(T3 id cn sn tick ck).length=0 then []else Ade (T2 p) (T3 id cn sn tick ck)
theorem Bbd (p:List YB) (id:Int) (cn sn:List YB) (tick:Int) (ck:List YB):(Aud p id cn sn tick ck).length≤16:=by
 unfold Aud
 split
 ·simp
 ·exact Bfd _ _
theorem Bfo (p:List YB) (id:Int) (cn sn:List YB) (tick:Int) (ck:List YB):Aaf (p,()) (id,()) (cn,()) (sn,()) (tick,()) (ck,())=some (Aud p id cn sn tick ck,()):=by
 unfold Aaf Akk Aud
 simp only[Ac,Ae,Ab,A5p,A5q,Be0,Ai]
 by_cases h1:(T2 p).length=0
 ·rw[Fu (by simp[h1]),if_pos (.inl h1)]
 ·rw[Em (by simp;exact fun e=>h1 (by simp[e]))]
  by_cases h2:(T3 id cn sn tick ck).length=0
  ·rw[Fu (by simp[h2]),if_pos (.inr h2)]
  ·rw[Em (by simp;exact fun e=>h2 (by simp[e])),if_neg (by rintro(q|q);exact h1 q;exact h2 q)]
def V4 (l:List YB) (n:Int):Bool:=((l.length:Int)==0) || ((l.length:Int)==n)
def Aek (n:A6):Bool:=inR n.1 1 17 && (inR n.2.1 0 9 && (inR n.2.2.1 0 1 && (inR n.2.2.2.2.2.1 0 4294967295 && (inR n.2.2.2.2.2.2.1 0 281474976710655 && (inR n.2.2.2.2.2.2.2.2.2.2.2.1 0 1000000 &&
 (V4 n.2.2.2.1 12 && (V4 n.2.2.2.2.1 12 && (decide ((n.2.2.2.2.2.2.2.1.length:Int)≤100) && (V4 n.2.2.2.2.2.2.2.2.1 32 && D3 (n.2.2.2.2.2.2.2.2.2.1,n.2.2.2.2.2.2.2.2.2.2.1,()))))))))))
theorem A8q {n:A6}:Aek n=true↔(1≤n.1∧n.1≤17)∧(0≤n.2.1∧n.2.1≤9)∧(0≤n.2.2.1∧n.2.2.1≤1)∧(0≤n.2.2.2.2.2.1∧n.2.2.2.2.2.1≤4294967295)∧(0≤n.2.2.2.2.2.2.1∧n.2.2.2.2.2.2.1≤281474976710655)∧(0≤n.2.2.2.2.2.2.2.2.2.2.2.1∧n.2.2.2.2.2.2.2.2.2.2.2.1≤1000000)∧
  (n.2.2.2.1.length=0∨n.2.2.2.1.length=12)∧(n.2.2.2.2.1.length=0∨n.2.2.2.2.1.length=12)∧n.2.2.2.2.2.2.2.1.length≤100∧(n.2.2.2.2.2.2.2.2.1.length=0∨n.2.2.2.2.2.2.2.2.1.length=32)∧D3 (n.2.2.2.2.2.2.2.2.2.1,n.2.2.2.2.2.2.2.2.2.2.1,())=true:=by
 unfold Aek V4
 simp only[Bool.and_eq_true,Bool.or_eq_true,beq_iff_eq,Cu,decide_eq_true_eq]
 constructor
 ·rintro⟨a,b,c,d,e,f,g,h,i,j,k⟩
  exact⟨a,b,c,d,e,f,by omega,by omega,by omega,by omega,k⟩
 ·rintro⟨a,b,c,d,e,f,g,h,i,j,k⟩
  exact⟨a,b,c,d,e,f,by omega,by omega,by omega,by omega,k⟩
theorem Bhu:D3 ((0:Int),(0:Int),())=true:=by decide
def A6p (l:List A6):Prop:=∀n∈l,Aek n=true
end
end Go.Proofs.YtfljmgnghlpapaaGreat

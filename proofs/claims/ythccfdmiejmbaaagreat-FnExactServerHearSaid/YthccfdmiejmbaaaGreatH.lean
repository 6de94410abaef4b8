/-
  That the program and the reference answer alike, in plain terms, and that the laws answer true.
-/
import Derived.Test.YthccfdmiejmbaaaGreatW
namespace Go.Proofs.YthccfdmiejmbaaaGreat
open Go.RowKit
set_option linter.unusedVariables false
set_option linter.unusedSimpArgs false
set_option maxHeartbeats 4000000
noncomputable section
theorem Bc {α:Type} {l:List α} {i:Nat} {x:α} (h:l[i]? =some x):idx l (i:Int)=some x:=(Bi6 l i).trans h
theorem Zg {α:Type} {l:List α} {i:Nat} {x:α} (h:i<l.length):idx (l.set i x) (i:Int)=some x:=by rw[Bi6,List.getElem?_set_self h]
theorem Bw {i n:Nat} (h:i<n):decide ((i:Int)<(n:Int))=true:=by simpa using h
theorem B7 (n:Nat):decide ((n:Int)<(n:Int))=false:=by simp
theorem B5 {α:Type} [BEq α] [LawfulBEq α] (a:α):(a != a)=false:=by simp
theorem Pj {k:Int} (h:0<=k):decide (k<0)=false:=by simpa using h
theorem Ai {p:Prop} [Decidable p] (h:p):decide p=true:=by simpa using h
theorem Bk {p:Prop} [Decidable p] (h: ¬p):decide p=false:=by simpa using h
theorem Ew {E:Type} {w:E->Nat} (h: ∀x,1<=w x): ∀l:List E,l.length<=Af w l
 |[]=>by simp[Af]
 |x::r=>by simp only[Af,List.length_cons];have:=h x;have:=Ew h r;omega
theorem Ce {ρ:Type} {b:Bool} {x y:Option ρ} (h:b=false):br b x y=y:=by subst h;rfl
theorem Dj {ρ:Type} {b:Bool} {x y:Option ρ} (h:b=true):br b x y=x:=by subst h;rfl
theorem ml {n:Nat} (h:n<=maxLen):n<=9223372036854775807:=by unfold maxLen at h;omega
def w_B (d:YB):Nat:=1
def m_B (d:YB) (k:Int):YB:=(IntKind.u8.wrap k,())
def w_I (d:YI):Nat:=1
def m_I (d:YI) (k:Int):YI:=(k,())
abbrev A14:Type:=YBs
def Cy (d:YBs):Nat:=d.1.length
def Bi7 (d:YBs):Prop:=d.1.length<=9223372036854775807
def G6 (d:YBs):Nat:=Af w_B d.1
def A7u (d:YBs) (k:Int):YBs:=(mkL m_B w_B d.1 (k),())
theorem Bzm (d:YBs):G6 d<=32*Cy d+32:=by
 have h0:=D7 (f:=w_B) (fun _=>by simp[w_B]) d.1
 simp only[G6,Cy];omega
def Bs (d:A14):Nat:=d.1.length
def Rl (d:A14):Prop:=d.1.length<=9223372036854775807
def Kd (d:A14):Nat:=Af w_B d.1
def Bo (d:C7):Nat:=d.1.length
def Pk (d:C7):Prop:=d.1.length<=9223372036854775807
def Ik (d:C7):Nat:=Af w_B d.1
def Bv (d:Cz):Nat:=d.2.1.length
def Wg (d:Cz):Prop:=d.2.1.length<=9223372036854775807
def Bi (d:YEp):Nat:=d.2.1.length+d.2.2.2.2.1.length
def Ahg (d:YEp):Prop:=d.2.1.length<=9223372036854775807/\d.2.2.2.2.1.length<=9223372036854775807
def Aw (d:Aq):Nat:=d.2.1.length+d.2.2.2.1.length+d.2.2.2.2.2.2.1.length+d.2.2.2.2.2.2.2.2.1.length+d.2.2.2.2.2.2.2.2.2.2.2.1.length+d.2.2.2.2.2.2.2.2.2.2.2.2.2.2.1.length
def Zh (d:Aq):Prop:=d.2.1.length<=9223372036854775807/\d.2.2.2.1.length<=9223372036854775807/\d.2.2.2.2.2.2.1.length<=9223372036854775807/\d.2.2.2.2.2.2.2.2.1.length<=9223372036854775807/\d.2.2.2.2.2.2.2.2.2.2.2.1.length<=9223372036854775807/\d.2.2.2.2.2.2.2.2.2.2.2.2.2.2.1.length<=9223372036854775807
def Bh (d:Av):Nat:=d.2.2.1.length
def Mn (d:Av):Prop:=d.2.2.1.length<=9223372036854775807
def Ej (d:Av):Nat:=1+1+Af w_B d.2.2.1+1
def Arc (d:Av) (k:Int):Av:=(k,k+1,mkL m_B w_B d.2.2.1 (k+1+1),k+1+1+(Af w_B d.2.2.1:Nat),())
theorem Buq (d:Av):Ej d<=32*Bh d+32:=by
 have h2:=D7 (f:=w_B) (fun _=>by simp[w_B]) d.2.2.1
 simp only[Ej,Bh];omega
def A8 (d:Bd):Nat:=d.2.2.1.length+Af Bh d.2.2.1
def Ac0 (d:Bd):Prop:=d.2.2.1.length<=9223372036854775807/\(∀(i:Nat) x,d.2.2.1[i]? =some x->Mn x)
def Ap (d:Al):Nat:=d.2.1.length+d.2.2.1.length+d.2.2.2.2.1.length+d.2.2.2.2.2.2.1.length+d.2.2.2.2.2.2.2.2.2.1.length+d.2.2.2.2.2.2.2.2.2.2.2.1.length+d.2.2.2.2.2.2.2.2.2.2.2.2.2.2.1.length+d.2.2.2.2.2.2.2.2.2.2.2.2.2.2.2.2.2.1.length+d.2.2.2.2.2.2.2.2.2.2.2.2.2.2.2.2.2.2.2.2.1.length+Af Bh d.2.2.2.2.2.2.2.2.2.2.2.2.2.2.2.2.2.2.2.2.1
def Sb (d:Al):Prop:=d.2.1.length<=9223372036854775807/\d.2.2.1.length<=9223372036854775807/\d.2.2.2.2.1.length<=9223372036854775807/\d.2.2.2.2.2.2.1.length<=9223372036854775807/\d.2.2.2.2.2.2.2.2.2.1.length<=9223372036854775807/\d.2.2.2.2.2.2.2.2.2.2.2.1.length<=9223372036854775807/\d.2.2.2.2.2.2.2.2.2.2.2.2.2.2.1.length<=9223372036854775807/\d.2.2.2.2.2.2.2.2.2.2.2.2.2.2.2.2.2.1.length<=9223372036854775807/\d.2.2.2.2.2.2.2.2.2.2.2.2.2.2.2.2.2.2.2.2.1.length<=9223372036854775807/\(∀(i:Nat) x,d.2.2.2.2.2.2.2.2.2.2.2.2.2.2.2.2.2.2.2.2.1[i]? =some x->Mn x)
def Dp (d:Al):Nat:=1+Af w_B d.2.1+Af w_B d.2.2.1+1+Af w_B d.2.2.2.2.1+1+Af w_B d.2.2.2.2.2.2.1+1+1+Af w_I d.2.2.2.2.2.2.2.2.2.1+1+Af w_B d.2.2.2.2.2.2.2.2.2.2.2.1+1+1+Af w_I d.2.2.2.2.2.2.2.2.2.2.2.2.2.2.1+1+1+Af w_B d.2.2.2.2.2.2.2.2.2.2.2.2.2.2.2.2.2.1+1+1+Af Ej d.2.2.2.2.2.2.2.2.2.2.2.2.2.2.2.2.2.2.2.2.1+1+1+1
def Wh (d:Al) (k:Int):Al:=(k,mkL m_B w_B d.2.1 (k+1),mkL m_B w_B d.2.2.1 (k+1+(Af w_B d.2.1:Nat)),k+1+(Af w_B d.2.1:Nat)+(Af w_B d.2.2.1:Nat),mkL m_B w_B d.2.2.2.2.1 (k+1+(Af w_B d.2.1:Nat)+(Af w_B d.2.2.1:Nat)+1),k+1+(Af w_B d.2.1:Nat)+(Af w_B d.2.2.1:Nat)+1+(Af w_B d.2.2.2.2.1:Nat),mkL m_B w_B d.2.2.2.2.2.2.1 (k+1+(Af w_B d.2.1:Nat)+(Af w_B d.2.2.1:Nat)+1+(Af w_B d.2.2.2.2.1:Nat)+1),k+1+(Af w_B d.2.1:Nat)+(Af w_B d.2.2.1:Nat)+1+(Af w_B d.2.2.2.2.1:Nat)+1+(Af w_B d.2.2.2.2.2.2.1:Nat),k+1+(Af w_B d.2.1:Nat)+(Af w_B d.2.2.1:Nat)+1+(Af w_B d.2.2.2.2.1:Nat)+1+(Af w_B d.2.2.2.2.2.2.1:Nat)+1,mkL m_I w_I d.2.2.2.2.2.2.2.2.2.1 (k+1+(Af w_B d.2.1:Nat)+(Af w_B d.2.2.1:Nat)+1+(Af w_B d.2.2.2.2.1:Nat)+1+(Af w_B d.2.2.2.2.2.2.1:Nat)+1+1),k+1+(Af w_B d.2.1:Nat)+(Af w_B d.2.2.1:Nat)+1+(Af w_B d.2.2.2.2.1:Nat)+1+(Af w_B d.2.2.2.2.2.2.1:Nat)+1+1+(Af w_I d.2.2.2.2.2.2.2.2.2.1:Nat),mkL m_B w_B d.2.2.2.2.2.2.2.2.2.2.2.1 (k+1+(Af w_B d.2.1:Nat)+(Af w_B d.2.2.1:Nat)+1+(Af w_B d.2.2.2.2.1:Nat)+1+(Af w_B d.2.2.2.2.2.2.1:Nat)+1+1+(Af w_I d.2.2.2.2.2.2.2.2.2.1:Nat)+1),k+1+(Af w_B d.2.1:Nat)+(Af w_B d.2.2.1:Nat)+1+(Af w_B d.2.2.2.2.1:Nat)+1+(Af w_B d.2.2.2.2.2.2.1:Nat)+1+1+(Af w_I d.2.2.2.2.2.2.2.2.2.1:Nat)+1+(Af w_B d.2.2.2.2.2.2.2.2.2.2.2.1:Nat),k+1+(Af w_B d.2.1:Nat)+(Af w_B d.2.2.1:Nat)+1+(Af w_B d.2.2.2.2.1:Nat)+1+(Af w_B d.2.2.2.2.2.2.1:Nat)+1+1+(Af w_I d.2.2.2.2.2.2.2.2.2.1:Nat)+1+(Af w_B d.2.2.2.2.2.2.2.2.2.2.2.1:Nat)+1,mkL m_I w_I d.2.2.2.2.2.2.2.2.2.2.2.2.2.2.1 (k+1+(Af w_B d.2.1:Nat)+(Af w_B d.2.2.1:Nat)+1+(Af w_B d.2.2.2.2.1:Nat)+1+(Af w_B d.2.2.2.2.2.2.1:Nat)+1+1+(Af w_I d.2.2.2.2.2.2.2.2.2.1:Nat)+1+(Af w_B d.2.2.2.2.2.2.2.2.2.2.2.1:Nat)+1+1),((k+1+(Af w_B d.2.1:Nat)+(Af w_B d.2.2.1:Nat)+1+(Af w_B d.2.2.2.2.1:Nat)+1+(Af w_B d.2.2.2.2.2.2.1:Nat)+1+1+(Af w_I d.2.2.2.2.2.2.2.2.2.1:Nat)+1+(Af w_B d.2.2.2.2.2.2.2.2.2.2.2.1:Nat)+1+1+(Af w_I d.2.2.2.2.2.2.2.2.2.2.2.2.2.2.1:Nat))%(3:Int))==(0:Int),k+1+(Af w_B d.2.1:Nat)+(Af w_B d.2.2.1:Nat)+1+(Af w_B d.2.2.2.2.1:Nat)+1+(Af w_B d.2.2.2.2.2.2.1:Nat)+1+1+(Af w_I d.2.2.2.2.2.2.2.2.2.1:Nat)+1+(Af w_B d.2.2.2.2.2.2.2.2.2.2.2.1:Nat)+1+1+(Af w_I d.2.2.2.2.2.2.2.2.2.2.2.2.2.2.1:Nat)+1,mkL m_B w_B d.2.2.2.2.2.2.2.2.2.2.2.2.2.2.2.2.2.1 (k+1+(Af w_B d.2.1:Nat)+(Af w_B d.2.2.1:Nat)+1+(Af w_B d.2.2.2.2.1:Nat)+1+(Af w_B d.2.2.2.2.2.2.1:Nat)+1+1+(Af w_I d.2.2.2.2.2.2.2.2.2.1:Nat)+1+(Af w_B d.2.2.2.2.2.2.2.2.2.2.2.1:Nat)+1+1+(Af w_I d.2.2.2.2.2.2.2.2.2.2.2.2.2.2.1:Nat)+1+1),k+1+(Af w_B d.2.1:Nat)+(Af w_B d.2.2.1:Nat)+1+(Af w_B d.2.2.2.2.1:Nat)+1+(Af w_B d.2.2.2.2.2.2.1:Nat)+1+1+(Af w_I d.2.2.2.2.2.2.2.2.2.1:Nat)+1+(Af w_B d.2.2.2.2.2.2.2.2.2.2.2.1:Nat)+1+1+(Af w_I d.2.2.2.2.2.2.2.2.2.2.2.2.2.2.1:Nat)+1+1+(Af w_B d.2.2.2.2.2.2.2.2.2.2.2.2.2.2.2.2.2.1:Nat),k+1+(Af w_B d.2.1:Nat)+(Af w_B d.2.2.1:Nat)+1+(Af w_B d.2.2.2.2.1:Nat)+1+(Af w_B d.2.2.2.2.2.2.1:Nat)+1+1+(Af w_I d.2.2.2.2.2.2.2.2.2.1:Nat)+1+(Af w_B d.2.2.2.2.2.2.2.2.2.2.2.1:Nat)+1+1+(Af w_I d.2.2.2.2.2.2.2.2.2.2.2.2.2.2.1:Nat)+1+1+(Af w_B d.2.2.2.2.2.2.2.2.2.2.2.2.2.2.2.2.2.1:Nat)+1,mkL Arc Ej d.2.2.2.2.2.2.2.2.2.2.2.2.2.2.2.2.2.2.2.2.1 (k+1+(Af w_B d.2.1:Nat)+(Af w_B d.2.2.1:Nat)+1+(Af w_B d.2.2.2.2.1:Nat)+1+(Af w_B d.2.2.2.2.2.2.1:Nat)+1+1+(Af w_I d.2.2.2.2.2.2.2.2.2.1:Nat)+1+(Af w_B d.2.2.2.2.2.2.2.2.2.2.2.1:Nat)+1+1+(Af w_I d.2.2.2.2.2.2.2.2.2.2.2.2.2.2.1:Nat)+1+1+(Af w_B d.2.2.2.2.2.2.2.2.2.2.2.2.2.2.2.2.2.1:Nat)+1+1),k+1+(Af w_B d.2.1:Nat)+(Af w_B d.2.2.1:Nat)+1+(Af w_B d.2.2.2.2.1:Nat)+1+(Af w_B d.2.2.2.2.2.2.1:Nat)+1+1+(Af w_I d.2.2.2.2.2.2.2.2.2.1:Nat)+1+(Af w_B d.2.2.2.2.2.2.2.2.2.2.2.1:Nat)+1+1+(Af w_I d.2.2.2.2.2.2.2.2.2.2.2.2.2.2.1:Nat)+1+1+(Af w_B d.2.2.2.2.2.2.2.2.2.2.2.2.2.2.2.2.2.1:Nat)+1+1+(Af Ej d.2.2.2.2.2.2.2.2.2.2.2.2.2.2.2.2.2.2.2.2.1:Nat),k+1+(Af w_B d.2.1:Nat)+(Af w_B d.2.2.1:Nat)+1+(Af w_B d.2.2.2.2.1:Nat)+1+(Af w_B d.2.2.2.2.2.2.1:Nat)+1+1+(Af w_I d.2.2.2.2.2.2.2.2.2.1:Nat)+1+(Af w_B d.2.2.2.2.2.2.2.2.2.2.2.1:Nat)+1+1+(Af w_I d.2.2.2.2.2.2.2.2.2.2.2.2.2.2.1:Nat)+1+1+(Af w_B d.2.2.2.2.2.2.2.2.2.2.2.2.2.2.2.2.2.1:Nat)+1+1+(Af Ej d.2.2.2.2.2.2.2.2.2.2.2.2.2.2.2.2.2.2.2.2.1:Nat)+1,((k+1+(Af w_B d.2.1:Nat)+(Af w_B d.2.2.1:Nat)+1+(Af w_B d.2.2.2.2.1:Nat)+1+(Af w_B d.2.2.2.2.2.2.1:Nat)+1+1+(Af w_I d.2.2.2.2.2.2.2.2.2.1:Nat)+1+(Af w_B d.2.2.2.2.2.2.2.2.2.2.2.1:Nat)+1+1+(Af w_I d.2.2.2.2.2.2.2.2.2.2.2.2.2.2.1:Nat)+1+1+(Af w_B d.2.2.2.2.2.2.2.2.2.2.2.2.2.2.2.2.2.1:Nat)+1+1+(Af Ej d.2.2.2.2.2.2.2.2.2.2.2.2.2.2.2.2.2.2.2.2.1:Nat)+1+1)%(3:Int))==(0:Int),())
theorem Bur (d:Al):Dp d<=32*Ap d+32:=by
 have h1:=D7 (f:=w_B) (fun _=>by simp[w_B]) d.2.1
 have h2:=D7 (f:=w_B) (fun _=>by simp[w_B]) d.2.2.1
 have h4:=D7 (f:=w_B) (fun _=>by simp[w_B]) d.2.2.2.2.1
 have h6:=D7 (f:=w_B) (fun _=>by simp[w_B]) d.2.2.2.2.2.2.1
 have h9:=D7 (f:=w_I) (fun _=>by simp[w_I]) d.2.2.2.2.2.2.2.2.2.1
 have h11:=D7 (f:=w_B) (fun _=>by simp[w_B]) d.2.2.2.2.2.2.2.2.2.2.2.1
 have h14:=D7 (f:=w_I) (fun _=>by simp[w_I]) d.2.2.2.2.2.2.2.2.2.2.2.2.2.2.1
 have h17:=D7 (f:=w_B) (fun _=>by simp[w_B]) d.2.2.2.2.2.2.2.2.2.2.2.2.2.2.2.2.2.1
 have h20:=Aht (f:=Ej) (g:=Bh) Buq d.2.2.2.2.2.2.2.2.2.2.2.2.2.2.2.2.2.2.2.2.1
 simp only[Dp,Ap];omega
def Bj (d:B8):Nat:=d.2.1.length+Af Ap d.2.1
def Bbb (d:B8):Prop:=d.2.1.length<=9223372036854775807/\(∀(i:Nat) x,d.2.1[i]? =some x->Sb x)
def Ke (d:B8):Nat:=Af Dp d.2.1
def G7 (d:Ak):Nat:=0
def Bus (d:Ak):Prop:=True
def Du (d:Ak):Nat:=1+1+1+1
def Xm (d:Ak) (k:Int):Ak:=(k,k+1,k+1+1,k+1+1+1,())
def A7 (d:A0):Nat:=d.1.length+Af Cy d.1+d.2.1.length+d.2.2.1.length+d.2.2.2.2.2.1.length+Af Ap d.2.2.2.2.2.1+d.2.2.2.2.2.2.1.length
def Zi (d:A0):Prop:=d.1.length<=9223372036854775807/\(∀(i:Nat) x,d.1[i]? =some x->Bi7 x)/\d.2.1.length<=9223372036854775807/\d.2.2.1.length<=9223372036854775807/\d.2.2.2.2.2.1.length<=9223372036854775807/\(∀(i:Nat) x,d.2.2.2.2.2.1[i]? =some x->Sb x)/\d.2.2.2.2.2.2.1.length<=9223372036854775807
def Ip (d:A0):Nat:=Af G6 d.1+Af w_B d.2.1+Af w_B d.2.2.1+Af Dp d.2.2.2.2.2.1+Af Du d.2.2.2.2.2.2.1
theorem A15 (d:A0):Ip d<=32*A7 d+32:=by
 have h0:=Aht (f:=G6) (g:=Cy) Bzm d.1
 have h1:=D7 (f:=w_B) (fun _=>by simp[w_B]) d.2.1
 have h2:=D7 (f:=w_B) (fun _=>by simp[w_B]) d.2.2.1
 have h5:=Aht (f:=Dp) (g:=Ap) Bur d.2.2.2.2.2.1
 have h6:=D7 (f:=Du) (fun _=>by simp[Du]) d.2.2.2.2.2.2.1
 simp only[Ip,A7];omega
def Da (d:A6):Nat:=0
def Ard (d:A6):Prop:=True
def A5 (d:As):Nat:=d.2.2.1.length+d.2.2.2.1.length+d.2.2.2.2.2.1.length+d.2.2.2.2.2.2.1.length+d.2.2.2.2.2.2.2.2.2.1.length+d.2.2.2.2.2.2.2.2.2.2.1.length
def Dv (d:Au):Nat:=d.2.2.2.2.1.length+d.2.2.2.2.2.1.length+d.2.2.2.2.2.2.2.1.length+d.2.2.2.2.2.2.2.2.1.length+d.2.2.2.2.2.2.2.2.2.2.2.1.length+d.2.2.2.2.2.2.2.2.2.2.2.2.1.length
def I7 (d:Au):Nat:=1+1+1+1+Af w_B d.2.2.2.2.1+Af w_B d.2.2.2.2.2.1+1+Af w_B d.2.2.2.2.2.2.2.1+Af w_B d.2.2.2.2.2.2.2.2.1+1+1+Af w_B d.2.2.2.2.2.2.2.2.2.2.2.1+Af w_B d.2.2.2.2.2.2.2.2.2.2.2.2.1
def Bbc (d:Au) (k:Int):Au:=(k,k+1,k+1+1,k+1+1+1,mkL m_B w_B d.2.2.2.2.1 (k+1+1+1+1),mkL m_B w_B d.2.2.2.2.2.1 (k+1+1+1+1+(Af w_B d.2.2.2.2.1:Nat)),k+1+1+1+1+(Af w_B d.2.2.2.2.1:Nat)+(Af w_B d.2.2.2.2.2.1:Nat),mkL m_B w_B d.2.2.2.2.2.2.2.1 (k+1+1+1+1+(Af w_B d.2.2.2.2.1:Nat)+(Af w_B d.2.2.2.2.2.1:Nat)+1),mkL m_B w_B d.2.2.2.2.2.2.2.2.1 (k+1+1+1+1+(Af w_B d.2.2.2.2.1:Nat)+(Af w_B d.2.2.2.2.2.1:Nat)+1+(Af w_B d.2.2.2.2.2.2.2.1:Nat)),k+1+1+1+1+(Af w_B d.2.2.2.2.1:Nat)+(Af w_B d.2.2.2.2.2.1:Nat)+1+(Af w_B d.2.2.2.2.2.2.2.1:Nat)+(Af w_B d.2.2.2.2.2.2.2.2.1:Nat),k+1+1+1+1+(Af w_B d.2.2.2.2.1:Nat)+(Af w_B d.2.2.2.2.2.1:Nat)+1+(Af w_B d.2.2.2.2.2.2.2.1:Nat)+(Af w_B d.2.2.2.2.2.2.2.2.1:Nat)+1,mkL m_B w_B d.2.2.2.2.2.2.2.2.2.2.2.1 (k+1+1+1+1+(Af w_B d.2.2.2.2.1:Nat)+(Af w_B d.2.2.2.2.2.1:Nat)+1+(Af w_B d.2.2.2.2.2.2.2.1:Nat)+(Af w_B d.2.2.2.2.2.2.2.2.1:Nat)+1+1),mkL m_B w_B d.2.2.2.2.2.2.2.2.2.2.2.2.1 (k+1+1+1+1+(Af w_B d.2.2.2.2.1:Nat)+(Af w_B d.2.2.2.2.2.1:Nat)+1+(Af w_B d.2.2.2.2.2.2.2.1:Nat)+(Af w_B d.2.2.2.2.2.2.2.2.1:Nat)+1+1+(Af w_B d.2.2.2.2.2.2.2.2.2.2.2.1:Nat)),())
theorem Bxi (d:Au):I7 d<=32*Dv d+32:=by
 have h4:=D7 (f:=w_B) (fun _=>by simp[w_B]) d.2.2.2.2.1
 have h5:=D7 (f:=w_B) (fun _=>by simp[w_B]) d.2.2.2.2.2.1
 have h7:=D7 (f:=w_B) (fun _=>by simp[w_B]) d.2.2.2.2.2.2.2.1
 have h8:=D7 (f:=w_B) (fun _=>by simp[w_B]) d.2.2.2.2.2.2.2.2.1
 have h11:=D7 (f:=w_B) (fun _=>by simp[w_B]) d.2.2.2.2.2.2.2.2.2.2.2.1
 have h12:=D7 (f:=w_B) (fun _=>by simp[w_B]) d.2.2.2.2.2.2.2.2.2.2.2.2.1
 simp only[I7,Dv];omega
def Db (d:Am):Nat:=d.2.2.2.1.length+d.2.2.2.2.1.length+d.2.2.2.2.2.2.2.1.length+d.2.2.2.2.2.2.2.2.1.length
def G8 (d:Am):Nat:=1+1+1+Af w_B d.2.2.2.1+Af w_B d.2.2.2.2.1+1+1+Af w_B d.2.2.2.2.2.2.2.1+Af w_B d.2.2.2.2.2.2.2.2.1+1+1+1
def A16 (d:Am) (k:Int):Am:=(k,k+1,k+1+1,mkL m_B w_B d.2.2.2.1 (k+1+1+1),mkL m_B w_B d.2.2.2.2.1 (k+1+1+1+(Af w_B d.2.2.2.1:Nat)),k+1+1+1+(Af w_B d.2.2.2.1:Nat)+(Af w_B d.2.2.2.2.1:Nat),k+1+1+1+(Af w_B d.2.2.2.1:Nat)+(Af w_B d.2.2.2.2.1:Nat)+1,mkL m_B w_B d.2.2.2.2.2.2.2.1 (k+1+1+1+(Af w_B d.2.2.2.1:Nat)+(Af w_B d.2.2.2.2.1:Nat)+1+1),mkL m_B w_B d.2.2.2.2.2.2.2.2.1 (k+1+1+1+(Af w_B d.2.2.2.1:Nat)+(Af w_B d.2.2.2.2.1:Nat)+1+1+(Af w_B d.2.2.2.2.2.2.2.1:Nat)),k+1+1+1+(Af w_B d.2.2.2.1:Nat)+(Af w_B d.2.2.2.2.1:Nat)+1+1+(Af w_B d.2.2.2.2.2.2.2.1:Nat)+(Af w_B d.2.2.2.2.2.2.2.2.1:Nat),k+1+1+1+(Af w_B d.2.2.2.1:Nat)+(Af w_B d.2.2.2.2.1:Nat)+1+1+(Af w_B d.2.2.2.2.2.2.2.1:Nat)+(Af w_B d.2.2.2.2.2.2.2.2.1:Nat)+1,k+1+1+1+(Af w_B d.2.2.2.1:Nat)+(Af w_B d.2.2.2.2.1:Nat)+1+1+(Af w_B d.2.2.2.2.2.2.2.1:Nat)+(Af w_B d.2.2.2.2.2.2.2.2.1:Nat)+1+1,())
theorem But (d:Am):G8 d<=32*Db d+32:=by
 have h3:=D7 (f:=w_B) (fun _=>by simp[w_B]) d.2.2.2.1
 have h4:=D7 (f:=w_B) (fun _=>by simp[w_B]) d.2.2.2.2.1
 have h7:=D7 (f:=w_B) (fun _=>by simp[w_B]) d.2.2.2.2.2.2.2.1
 have h8:=D7 (f:=w_B) (fun _=>by simp[w_B]) d.2.2.2.2.2.2.2.2.1
 simp only[G8,Db];omega
theorem Ly (d:List YB×Unit) (n:Int) (h0: -1<=n) (h1:n<=1099511627776) (hl:d.1.length<=9223372036854775807):G3 d (n,())=some (szR (d.1.length) n,()):=by
 unfold G3 Amt
 simp only[Ad,Aa]
 simp (disch:=omega) only[w64]
 unfold szR
 rw[Awd]
 by_cases h:(d.1.length:Int)<=n
 .simp only[decide_eq_true_eq,if_neg (show ¬(n-(d.1.length:Int)<0) by omega),if_pos h]
 .simp only[decide_eq_true_eq,if_pos (show n-(d.1.length:Int)<0 by omega),if_neg h]
theorem Iy (d:List YB×Unit) (h:d.1.length<=4294967296):Ev d=some d:=by
 have e:=fun(m:List YB) (hm:m.length=d.1.length)=>Ahu (B:=Q3) (m:=m) (l:=d.1) (ok:=fun _=>True) (fun m i x y hx hi hy=>by
  unfold Q3
  simp only[Ad,Ae,Aa,Ag,Az,Bw hi,Ay,Bc hx,Bc hy,Ab,Int.toNat_natCast]
  rw[w64 (by omega)]) (fun m=>by
  unfold Q3
  simp only[Ad,Ae,Aa,Ag,Az,B7,Aj]) hm
 unfold Ev Amx
 simp only[Ad,Ae,Aa,Ag,Az,decide_true]
 rw[Ai (by omega),Ai (by omega),Ar,Ar,Ar,e _ (by simp)]
 rfl
theorem Fw (d:List YB×Unit) (h:d.1.length<=4294967296):De d d=some (true,()):=by
 have e:=Zj (B:=Rf) (l:=d.1) (fun i x hx hi=>by
  unfold Rf
  simp only[Ad,Ae,Aa,Ag,Az,Bw hi,Ay,Bc hx,Ab,B5,Aj]
  rw[w64 (by omega)]) (by
  unfold Rf
  simp only[Ad,Ae,Aa,Ag,Az,B7,Aj])
 unfold De Aoe
 simp only[Ad,Ae,Aa,Ag,Az,B5,Aj]
 rw[e]
 rfl
theorem He (d:List YB×Unit) (k:Int) (h0:0<=k) (h1:k+(Af w_B d.1:Nat)<=4611686018427387904):Cn d (k,())=some ((k+(Af w_B d.1:Nat),()),(mkL m_B w_B d.1 k,())):=by
 have hl:=Ew (w:=w_B) (fun x=>by simp only[w_B];omega) d.1
 have e:=Pw (B:=Mw) m_B w_B (l:=d.1) (fun t k i x ht hx hlen h0 h1 hi=>by
  have hit:i<t.length:=by omega
  have hk:k+((w_B x:Nat):Int)=k+1:=by simp only[w_B];all_goals omega
  rw[hk]
  unfold Mw
  simp (maxSteps:=4000000) only[Ad,Ae,Aa,Ag,Az,Bw hit,Ay,Bc ht,Ab,Int.toNat_natCast]
  simp only[w_B]at*
  simp (maxSteps:=4000000) (disch:=first|omega|(dsimp only;omega)|(simp only[List.length_set];omega)) only[w64,Zg,List.set_set,Ab,Int.toNat_natCast,Ar,Ai]
  rfl) (fun t k hlen=>by
  unfold Mw
  exact(Ad _ _ _).trans ((Ce (by simp[hlen])).trans rfl)) h0 h1
 unfold Cn Af6
 simp only[Ad,Ae,Aa,Ag,Az]
 rw[e]
 rfl
theorem Ib (d:List YB) (k:Int) (h0:0<=k) (h1:k+(Af w_B d:Nat)<=4611686018427387904):Ct (mkL m_B w_B d k,()) (k,())=some (k+(Af w_B d:Nat),()):=by
 have hl:=Ew (w:=w_B) (fun x=>by simp only[w_B];omega) d
 have e:=Px (B:=M0) m_B w_B (l:=d) (k:=k) (fun k i x ht hx h0 h1 hi=>by
  have hk:k+((w_B x:Nat):Int)=k+1:=by simp only[w_B];all_goals omega
  rw[hk]
  unfold M0
  simp only[Ad,Ae,Aa,Ag,Az,Fv,Bw hi,Ay,Bc ht,Ab,m_B,B5,Aj]
  simp only[w_B]at*
  simp (maxSteps:=4000000) (disch:=first|omega|(dsimp only;omega)) only[w64,Ab,B5,beq_self_eq_true,Bool.not_true,Aj,Pj,Ar,Ai]) (fun k=>by
  unfold M0
  simp only[Ad,Ae,Aa,Ag,Az,Fv,B7,Aj]) h0 h1
 unfold Ct Aga
 simp only[Ad,Ae,Aa,Ag,Az]
 rw[e]
 rfl
theorem Kz (d:List YBs×Unit) (n:Int) (h0: -1<=n) (h1:n<=1099511627776) (hl:d.1.length<=9223372036854775807/\(∀(i:Nat) x,d.1[i]? =some x->Bi7 x)):Ajw d (n,())=some (szR (d.1.length+Af Cy d.1) n,()):=by
 obtain⟨hl1,hl2⟩:=hl
 unfold Ajw Ah9
 simp only[Ad,Ae,Aa,Ag,Az]
 rw[w64 (by omega)]
 by_cases h:(d.1.length:Int)<=n
 .rw[Bk (by omega),Aj,Bd4 Cy (l:=d.1) (fun n' i x hx hi h0' h1'=>by
    have hlx:=hl2 i x hx
    unfold Ui
    simp only[Ad,Ae,Aa,Ag,Az,Bw hi,Ay,Bc hx,Ab]
    rw[Ly x n' h0' h1' (by exact hlx),Ab]
    simp only[Cy]
    rw[w64 (by omega)]
    rfl) (fun n'=>by
    unfold Ui
    simp only[Ad,Ae,Aa,Ag,Az,B7,Aj]) (by omega) (by omega),<-J3]
  unfold szR
  rw[if_pos h]
 .rw[Ai (by omega),Ay]
  unfold szR
  rw[if_neg (by omega)]
theorem Jh (d:List YBs×Unit) (h:d.1.length+Af Cy d.1<=4294967296):Ajy d=some d:=by
 have e:=fun(m:List YBs) (hm:m.length=d.1.length)=>Ahu (B:=Og) (m:=m) (l:=d.1) (ok:=fun _=>True) (fun m i x y hx hi hy=>by
  unfold Og
  simp only[Ad,Ae,Aa,Ag,Az,Bw hi,Ay,Bc hx,Bc hy,Ab,Int.toNat_natCast]
  have hx2:=Gj (f:=Cy) hx
  rw[Iy x (by first|omega|(simp only[Cy]at*;omega)),Ab]
  try simp only[Bc hy,Ab,Int.toNat_natCast]
  rw[w64 (by omega)]) (fun m=>by
  unfold Og
  simp only[Ad,Ae,Aa,Ag,Az,B7,Aj]) hm
 unfold Ajy Aib
 simp only[Ad,Ae,Aa,Ag,Az,decide_true]
 rw[Ai (by omega),Ai (by omega),Ar,Ar,Ar,e _ (by simp)]
 rfl
theorem Fx (d:List YBs×Unit) (h:d.1.length+Af Cy d.1<=4294967296):Akh d d=some (true,()):=by
 have e:=Zj (B:=O7) (l:=d.1) (fun i x hx hi=>by
  unfold O7
  simp only[Ad,Ae,Aa,Ag,Az,Bw hi,Ay,Bc hx,Ab,B5,Aj]
  have hx2:=Gj (f:=Cy) hx
  rw[Fw x (by first|omega|(simp only[Cy]at*;omega)),Ab]
  try simp only[Bool.not_true,Aj]
  rw[w64 (by omega)]) (by
  unfold O7
  simp only[Ad,Ae,Aa,Ag,Az,B7,Aj])
 unfold Akh Ajn
 simp only[Ad,Ae,Aa,Ag,Az,B5,Aj]
 rw[e]
 rfl
theorem Hz (d:List YBs×Unit) (k:Int) (h0:0<=k) (h1:k+(Af G6 d.1:Nat)<=4611686018427387904) (hl:d.1.length<=4294967296):Acy d (k,())=some ((k+(Af G6 d.1:Nat),()),(mkL A7u G6 d.1 k,())):=by
 have hl:=hl
 have e:=Pw (B:=Lq) A7u G6 (l:=d.1) (fun t k i x ht hx hlen h0 h1 hi=>by
  have hit:i<t.length:=by omega
  have hw:G6 x=Af w_B x.1:=rfl
  have hk:k+((G6 x:Nat):Int)=k+(Af w_B x.1:Nat):=by simp only[G6];all_goals omega
  rw[hk]
  unfold Lq
  simp (maxSteps:=4000000) only[Ad,Ae,Aa,Ag,Az,Bw hit,Ay,Bc ht,Ab,Int.toNat_natCast]
  simp (maxSteps:=4000000) (disch:=first|omega|(dsimp only;omega)|(simp only[List.length_set];omega)) only[w64,Zg,List.set_set,Ab,Int.toNat_natCast,Ar,Ai,He]
  rfl) (fun t k hlen=>by
  unfold Lq
  exact(Ad _ _ _).trans ((Ce (by simp[hlen])).trans rfl)) h0 h1
 unfold Acy Ack
 simp only[Ad,Ae,Aa,Ag,Az]
 rw[e]
 rfl
theorem H0 (d:List YBs) (k:Int) (h0:0<=k) (h1:k+(Af G6 d:Nat)<=4611686018427387904) (hl:d.length<=4294967296):Acz (mkL A7u G6 d k,()) (k,())=some (k+(Af G6 d:Nat),()):=by
 have hl:=hl
 have e:=Px (B:=Lr) A7u G6 (l:=d) (k:=k) (fun k i x ht hx h0 h1 hi=>by
  have hk:k+((G6 x:Nat):Int)=k+(Af w_B x.1:Nat):=by simp only[G6];all_goals omega
  have hw:G6 x=Af w_B x.1:=rfl
  rw[hk]
  unfold Lr
  simp only[Ad,Ae,Aa,Ag,Az,Fv,Bw hi,Ay,Bc ht,Ab,A7u,B5,Aj]
  simp (maxSteps:=4000000) (disch:=first|omega|(dsimp only;omega)) only[w64,Ab,B5,beq_self_eq_true,Bool.not_true,Aj,Pj,Ar,Ai,Ib]) (fun k=>by
  unfold Lr
  simp only[Ad,Ae,Aa,Ag,Az,Fv,B7,Aj]) h0 h1
 unfold Acz Acm
 simp only[Ad,Ae,Aa,Ag,Az]
 rw[e]
 rfl
theorem Abj (d:A14) (n:Int) (h0: -1<=n) (h1:n<=1099511627776) (hl:Rl d):A1h d (n,())=some (szR (Bs d) n,()):=by
 unfold Rl at hl
 skip
 unfold A1h Ayx
 simp only[Ad,Ae,Aa,Ag,Az]
 simp (disch:=first|omega|(dsimp only;omega)|exact Wi _ _|exact Tq (by omega) (by omega)|((repeat' (first|assumption|apply And.intro));done)|((first|unfold Rl);dsimp only;(repeat' (first|assumption|apply And.intro));done)) only[Ly,Kz,Ab,J3]
 all_goals try simp (disch:=first|omega|(simp only[Bs];omega)) only[Apb]
 all_goals (first|rfl|(refine congrArg (fun t=>some (szR t n,())) ?_;simp only[Bs];omega))
theorem Wj (d:A14) (h:Bs d<=4294967296):A1k d=some d:=by
 have hn:Bs d=d.1.length:=rfl
 unfold A1k Ay2
 simp only[Ad,Ae,Aa,Ag,Az]
 simp (disch:=first|omega|(simp only[Bs];omega)) only[Iy,Jh,Ab]
 all_goals rfl
theorem Nj (d:A14) (h:Bs d<=4294967296):A10 d d=some (true,()):=by
 have hn:Bs d=d.1.length:=rfl
 unfold A10 A05
 simp (disch:=first|omega|(simp only[Bs];omega)) only[Ad,Ae,Aa,Ag,Az,B5,beq_self_eq_true,Aj,Ab,Bool.not_true,Fw,Fx]
theorem Qp (d:A14) (k:Int) (h0:0<=k) (h1:k+(Kd d:Nat)<=4611686018427387904) (hl:Bs d<=4294967296):Ao9 d (k,())=some ((k+(Kd d:Nat),()),(mkL m_B w_B d.1 (k),())):=by
 have hn:Bs d=d.1.length:=rfl
 have hw:Kd d=Af w_B d.1:=rfl
 have hk:k+((Kd d:Nat):Int)=k+(Af w_B d.1:Nat):=by simp only[Kd];all_goals omega
 rw[hk]
 unfold Ao9 Aok
 simp (maxSteps:=4000000) (disch:=first|omega|(dsimp only;omega)) only[Ad,Ae,Aa,Ag,Az,Ab,He,Hz]
theorem N4 (d:A14) (k:Int) (h0:0<=k) (h1:k+(Kd d:Nat)<=4611686018427387904) (hl:Bs d<=4294967296):Aei (mkL m_B w_B d.1 (k),()) (k,())=some (k+(Kd d:Nat),()):=by
 have hn:Bs d=d.1.length:=rfl
 have hw:Kd d=Af w_B d.1:=rfl
 have hk:k+((Kd d:Nat):Int)=k+(Af w_B d.1:Nat):=by simp only[Kd];all_goals omega
 rw[hk]
 unfold Aei Aom
 simp (maxSteps:=4000000) (disch:=first|omega|(dsimp only;omega)) only[Ad,Ae,Aa,Ag,Az,Ab,Aj,Pj,Ib,H0]
theorem Buu (c0:List YB) (k:Int) (h0:0<=k) (h1:k+(Kd (c0,()):Nat)<=4611686018427387904) (hl:Bs (c0,())<=4294967296):Aei (mkL m_B w_B c0 (k),()) (k,())=some (k+(Kd (c0,()):Nat),()):=N4 (c0,()) k h0 h1 hl
theorem Zk (d:C7) (n:Int) (h0: -1<=n) (h1:n<=1099511627776) (hl:Pk d):Au5 d (n,())=some (szR (Bo d) n,()):=by
 unfold Pk at hl
 skip
 unfold Au5 Asg
 simp only[Ad,Ae,Aa,Ag,Az]
 simp (disch:=first|omega|(dsimp only;omega)|exact Wi _ _|exact Tq (by omega) (by omega)|((repeat' (first|assumption|apply And.intro));done)|((first|unfold Pk|unfold Rl);dsimp only;(repeat' (first|assumption|apply And.intro));done)) only[Ly,Kz,Abj,Ab,J3]
 all_goals try simp (disch:=first|omega|(simp only[Bo,Bs];omega)) only[Apb]
 all_goals (first|rfl|(refine congrArg (fun t=>some (szR t n,())) ?_;simp only[Bo,Bs];omega))
theorem U9 (d:C7) (h:Bo d<=4294967296):Avb d=some d:=by
 have hn:Bo d=d.1.length:=rfl
 unfold Avb Asl
 simp only[Ad,Ae,Aa,Ag,Az]
 simp (disch:=first|omega|(simp only[Bo,Bs];omega)) only[Iy,Jh,Wj,Ab]
 all_goals rfl
theorem Le (d:C7) (h:Bo d<=4294967296):Av6 d d=some (true,()):=by
 have hn:Bo d=d.1.length:=rfl
 unfold Av6 Aux
 simp (disch:=first|omega|(simp only[Bo,Bs];omega)) only[Ad,Ae,Aa,Ag,Az,B5,beq_self_eq_true,Aj,Ab,Bool.not_true,Fw,Fx,Nj]
theorem Py (d:C7) (k:Int) (h0:0<=k) (h1:k+(Ik d:Nat)<=4611686018427387904) (hl:Bo d<=4294967296):Akj d (k,())=some ((k+(Ik d:Nat),()),(mkL m_B w_B d.1 (k),d.2.1,())):=by
 have hn:Bo d=d.1.length:=rfl
 have hw:Ik d=Af w_B d.1:=rfl
 have hk:k+((Ik d:Nat):Int)=k+(Af w_B d.1:Nat):=by simp only[Ik];all_goals omega
 rw[hk]
 unfold Akj Ajq
 simp (maxSteps:=4000000) (disch:=first|omega|(dsimp only;omega)) only[Ad,Ae,Aa,Ag,Az,Ab,He,Hz,Qp]
theorem Nk (d:C7) (k:Int) (h0:0<=k) (h1:k+(Ik d:Nat)<=4611686018427387904) (hl:Bo d<=4294967296):Abf (mkL m_B w_B d.1 (k),d.2.1,()) (k,())=some (k+(Ik d:Nat),()):=by
 have hn:Bo d=d.1.length:=rfl
 have hw:Ik d=Af w_B d.1:=rfl
 have hk:k+((Ik d:Nat):Int)=k+(Af w_B d.1:Nat):=by simp only[Ik];all_goals omega
 rw[hk]
 unfold Abf Ajt
 simp (maxSteps:=4000000) (disch:=first|omega|(dsimp only;omega)) only[Ad,Ae,Aa,Ag,Az,Ab,Aj,Pj,Ib,H0,N4]
theorem Br1 (c0:List YB) (c1:Int) (k:Int) (h0:0<=k) (h1:k+(Ik (c0,c1,()):Nat)<=4611686018427387904) (hl:Bo (c0,c1,())<=4294967296):Abf (mkL m_B w_B c0 (k),c1,()) (k,())=some (k+(Ik (c0,c1,()):Nat),()):=Nk (c0,c1,()) k h0 h1 hl
theorem Zl (d:List YI×Unit) (n:Int) (h0: -1<=n) (h1:n<=1099511627776) (hl:d.1.length<=9223372036854775807):Au6 d (n,())=some (szR (d.1.length) n,()):=by
 unfold Au6 Ash
 simp only[Ad,Aa]
 simp (disch:=omega) only[w64]
 unfold szR
 rw[Awd]
 by_cases h:(d.1.length:Int)<=n
 .simp only[decide_eq_true_eq,if_neg (show ¬(n-(d.1.length:Int)<0) by omega),if_pos h]
 .simp only[decide_eq_true_eq,if_pos (show n-(d.1.length:Int)<0 by omega),if_neg h]
theorem Va (d:List YI×Unit) (h:d.1.length<=4294967296):Avc d=some d:=by
 have e:=fun(m:List YI) (hm:m.length=d.1.length)=>Ahu (B:=Sx) (m:=m) (l:=d.1) (ok:=fun _=>True) (fun m i x y hx hi hy=>by
  unfold Sx
  simp only[Ad,Ae,Aa,Ag,Az,Bw hi,Ay,Bc hx,Bc hy,Ab,Int.toNat_natCast]
  rw[w64 (by omega)]) (fun m=>by
  unfold Sx
  simp only[Ad,Ae,Aa,Ag,Az,B7,Aj]) hm
 unfold Avc Asm
 simp only[Ad,Ae,Aa,Ag,Az,decide_true]
 rw[Ai (by omega),Ai (by omega),Ar,Ar,Ar,e _ (by simp)]
 rfl
theorem Lf (d:List YI×Unit) (h:d.1.length<=4294967296):Av7 d d=some (true,()):=by
 have e:=Zj (B:=Th) (l:=d.1) (fun i x hx hi=>by
  unfold Th
  simp only[Ad,Ae,Aa,Ag,Az,Bw hi,Ay,Bc hx,Ab,B5,Aj]
  rw[w64 (by omega)]) (by
  unfold Th
  simp only[Ad,Ae,Aa,Ag,Az,B7,Aj])
 unfold Av7 Auy
 simp only[Ad,Ae,Aa,Ag,Az,B5,Aj]
 rw[e]
 rfl
theorem Tr (d:List YI×Unit) (k:Int) (h0:0<=k) (h1:k+(Af w_I d.1:Nat)<=4611686018427387904):Abd d (k,())=some ((k+(Af w_I d.1:Nat),()),(mkL m_I w_I d.1 k,())):=by
 have hl:=Ew (w:=w_I) (fun x=>by simp only[w_I];omega) d.1
 have e:=Pw (B:=O8) m_I w_I (l:=d.1) (fun t k i x ht hx hlen h0 h1 hi=>by
  have hit:i<t.length:=by omega
  have hk:k+((w_I x:Nat):Int)=k+1:=by simp only[w_I];all_goals omega
  rw[hk]
  unfold O8
  simp (maxSteps:=4000000) only[Ad,Ae,Aa,Ag,Az,Bw hit,Ay,Bc ht,Ab,Int.toNat_natCast]
  simp only[w_I]at*
  simp (maxSteps:=4000000) (disch:=first|omega|(dsimp only;omega)|(simp only[List.length_set];omega)) only[w64,Zg,List.set_set,Ab,Int.toNat_natCast,Ar,Ai,He,Hz,Qp,Py]
  rfl) (fun t k hlen=>by
  unfold O8
  exact(Ad _ _ _).trans ((Ce (by simp[hlen])).trans rfl)) h0 h1
 unfold Abd Ajr
 simp only[Ad,Ae,Aa,Ag,Az]
 rw[e]
 rfl
theorem Ts (d:List YI) (k:Int) (h0:0<=k) (h1:k+(Af w_I d:Nat)<=4611686018427387904):Abg (mkL m_I w_I d k,()) (k,())=some (k+(Af w_I d:Nat),()):=by
 have hl:=Ew (w:=w_I) (fun x=>by simp only[w_I];omega) d
 have e:=Px (B:=Pa) m_I w_I (l:=d) (k:=k) (fun k i x ht hx h0 h1 hi=>by
  have hk:k+((w_I x:Nat):Int)=k+1:=by simp only[w_I];all_goals omega
  rw[hk]
  unfold Pa
  simp only[Ad,Ae,Aa,Ag,Az,Fv,Bw hi,Ay,Bc ht,Ab,m_I,B5,Aj]
  simp only[w_I]at*
  simp (maxSteps:=4000000) (disch:=first|omega|(dsimp only;omega)) only[w64,Ab,B5,beq_self_eq_true,Bool.not_true,Aj,Pj,Ar,Ai,Ib,H0,N4,Nk]) (fun k=>by
  unfold Pa
  simp only[Ad,Ae,Aa,Ag,Az,Fv,B7,Aj]) h0 h1
 unfold Abg Aju
 simp only[Ad,Ae,Aa,Ag,Az]
 rw[e]
 rfl
theorem Akl (d:Cz) (n:Int) (h0: -1<=n) (h1:n<=1099511627776) (hl:Wg d):A1i d (n,())=some (szR (Bv d) n,()):=by
 unfold Wg at hl
 skip
 unfold A1i Ayy
 simp only[Ad,Ae,Aa,Ag,Az]
 simp (disch:=first|omega|(dsimp only;omega)|exact Wi _ _|exact Tq (by omega) (by omega)|((repeat' (first|assumption|apply And.intro));done)|((first|unfold Wg|unfold Rl|unfold Pk);dsimp only;(repeat' (first|assumption|apply And.intro));done)) only[Ly,Kz,Abj,Zk,Zl,Ab,J3]
 all_goals try simp (disch:=first|omega|(simp only[Bv,Bs,Bo];omega)) only[Apb]
 all_goals (first|rfl|(refine congrArg (fun t=>some (szR t n,())) ?_;simp only[Bv,Bs,Bo];omega))
theorem Ae4 (d:Cz) (h:Bv d<=4294967296):A1l d=some d:=by
 have hn:Bv d=d.2.1.length:=rfl
 unfold A1l Ay3
 simp only[Ad,Ae,Aa,Ag,Az]
 simp (disch:=first|omega|(simp only[Bv,Bs,Bo];omega)) only[Iy,Jh,Wj,U9,Va,Ab]
 all_goals rfl
theorem Rm (d:Cz) (h:Bv d<=4294967296):A11 d d=some (true,()):=by
 have hn:Bv d=d.2.1.length:=rfl
 unfold A11 A06
 simp (disch:=first|omega|(simp only[Bv,Bs,Bo];omega)) only[Ad,Ae,Aa,Ag,Az,B5,beq_self_eq_true,Aj,Ab,Bool.not_true,Fw,Fx,Nj,Le,Lf]
theorem A3k (d:YEp) (n:Int) (h0: -1<=n) (h1:n<=1099511627776) (hl:Ahg d):Au7 d (n,())=some (szR (Bi d) n,()):=by
 unfold Ahg at hl
 obtain⟨hl0,hl1⟩:=hl
 unfold Au7 A58
 simp only[Ad,Ae,Aa,Ag,Az]
 simp (disch:=first|omega|(dsimp only;omega)|exact Wi _ _|exact Tq (by omega) (by omega)|((repeat' (first|assumption|apply And.intro));done)|((first|unfold Ahg|unfold Rl|unfold Pk|unfold Wg);dsimp only;(repeat' (first|assumption|apply And.intro));done)) only[Ly,Kz,Abj,Zk,Zl,Akl,Ab,J3]
 all_goals try simp (disch:=first|omega|(simp only[Bi,Bs,Bo,Bv];omega)) only[Apb]
 all_goals (first|rfl|(refine congrArg (fun t=>some (szR t n,())) ?_;simp only[Bi,Bs,Bo,Bv];omega))
theorem Awe (d:YEp) (h:Bi d<=4294967296):Avd d=some d:=by
 have hn:Bi d=d.2.1.length+d.2.2.2.2.1.length:=rfl
 unfold Avd A59
 simp only[Ad,Ae,Aa,Ag,Az]
 simp (disch:=first|omega|(simp only[Bi,Bs,Bo,Bv];omega)) only[Iy,Jh,Wj,U9,Va,Ae4,Ab]
 all_goals rfl
theorem Abk (d:YEp) (h:Bi d<=4294967296):Av8 d d=some (true,()):=by
 have hn:Bi d=d.2.1.length+d.2.2.2.2.1.length:=rfl
 unfold Av8 A7m
 simp (disch:=first|omega|(simp only[Bi,Bs,Bo,Bv];omega)) only[Ad,Ae,Aa,Ag,Az,B5,beq_self_eq_true,Aj,Ab,Bool.not_true,Fw,Fx,Nj,Le,Lf,Rm]
theorem Are (d:Aq) (n:Int) (h0: -1<=n) (h1:n<=1099511627776) (hl:Zh d):Au8 d (n,())=some (szR (Aw d) n,()):=by
 unfold Zh at hl
 obtain⟨hl0,hl1,hl2,hl3,hl4,hl5⟩:=hl
 unfold Au8 Asi
 simp only[Ad,Ae,Aa,Ag,Az]
 simp (disch:=first|omega|(dsimp only;omega)|exact Wi _ _|exact Tq (by omega) (by omega)|((repeat' (first|assumption|apply And.intro));done)|((first|unfold Zh|unfold Rl|unfold Pk|unfold Wg|unfold Ahg);dsimp only;(repeat' (first|assumption|apply And.intro));done)) only[Ly,Kz,Abj,Zk,Zl,Akl,A3k,Ab,J3]
 all_goals try simp (disch:=first|omega|(simp only[Aw,Bs,Bo,Bv,Bi];omega)) only[Apb]
 all_goals (first|rfl|(refine congrArg (fun t=>some (szR t n,())) ?_;simp only[Aw,Bs,Bo,Bv,Bi];omega))
theorem Ahv (d:Aq) (h:Aw d<=4294967296):Ave d=some d:=by
 have hn:Aw d=d.2.1.length+d.2.2.2.1.length+d.2.2.2.2.2.2.1.length+d.2.2.2.2.2.2.2.2.1.length+d.2.2.2.2.2.2.2.2.2.2.2.1.length+d.2.2.2.2.2.2.2.2.2.2.2.2.2.2.1.length:=rfl
 unfold Ave Asn
 simp only[Ad,Ae,Aa,Ag,Az]
 simp (disch:=first|omega|(simp only[Aw,Bs,Bo,Bv,Bi];omega)) only[Iy,Jh,Wj,U9,Va,Ae4,Awe,Ab]
 all_goals rfl
theorem Sc (d:Aq) (h:Aw d<=4294967296):Av9 d d=some (true,()):=by
 have hn:Aw d=d.2.1.length+d.2.2.2.1.length+d.2.2.2.2.2.2.1.length+d.2.2.2.2.2.2.2.2.1.length+d.2.2.2.2.2.2.2.2.2.2.2.1.length+d.2.2.2.2.2.2.2.2.2.2.2.2.2.2.1.length:=rfl
 unfold Av9 Auz
 simp (disch:=first|omega|(simp only[Aw,Bs,Bo,Bv,Bi];omega)) only[Ad,Ae,Aa,Ag,Az,B5,beq_self_eq_true,Aj,Ab,Bool.not_true,Fw,Fx,Nj,Le,Lf,Rm,Abk]
theorem Ac1 (d:A6):M7 d=some d:=by
 have hn:Da d=0:=rfl
 unfold M7 Aso
 simp only[Ad,Ae,Aa,Ag,Az]
 skip
 all_goals rfl
theorem Vb (d:A6):Qo d d=some (true,()):=by
 have hn:Da d=0:=rfl
 unfold Qo Au0
 simp (disch:=first|omega|(simp only[Da,Bs,Bo,Bv,Bi,Aw];omega)) only[Ad,Ae,Aa,Ag,Az,B5,beq_self_eq_true,Aj,Ab,Bool.not_true,Fw,Fx,Nj,Le,Lf,Rm,Abk,Sc]
theorem Arf (d:Av) (n:Int) (h0: -1<=n) (h1:n<=1099511627776) (hl:Mn d):Au9 d (n,())=some (szR (Bh d) n,()):=by
 unfold Mn at hl
 skip
 unfold Au9 Asj
 simp only[Ad,Ae,Aa,Ag,Az]
 simp (disch:=first|omega|(dsimp only;omega)|exact Wi _ _|exact Tq (by omega) (by omega)|((repeat' (first|assumption|apply And.intro));done)|((first|unfold Mn|unfold Rl|unfold Pk|unfold Wg|unfold Ahg|unfold Zh|unfold Ard);dsimp only;(repeat' (first|assumption|apply And.intro));done)) only[Ly,Kz,Abj,Zk,Zl,Akl,A3k,Are,Ab,J3]
 all_goals try simp (disch:=first|omega|(simp only[Bh,Bs,Bo,Bv,Bi,Aw,Da];omega)) only[Apb]
 all_goals (first|rfl|(refine congrArg (fun t=>some (szR t n,())) ?_;simp only[Bh,Bs,Bo,Bv,Bi,Aw,Da];omega))
theorem Ahw (d:Av) (h:Bh d<=4294967296):Avf d=some d:=by
 have hn:Bh d=d.2.2.1.length:=rfl
 unfold Avf Asp
 simp only[Ad,Ae,Aa,Ag,Az]
 simp (disch:=first|omega|(simp only[Bh,Bs,Bo,Bv,Bi,Aw,Da];omega)) only[Iy,Jh,Wj,U9,Va,Ae4,Awe,Ahv,Ac1,Ab]
 all_goals rfl
theorem Vc (d:Av) (h:Bh d<=4294967296):Awa d d=some (true,()):=by
 have hn:Bh d=d.2.2.1.length:=rfl
 unfold Awa Au1
 simp (disch:=first|omega|(simp only[Bh,Bs,Bo,Bv,Bi,Aw,Da];omega)) only[Ad,Ae,Aa,Ag,Az,B5,beq_self_eq_true,Aj,Ab,Bool.not_true,Fw,Fx,Nj,Le,Lf,Rm,Abk,Sc,Vb]
theorem Awf (d:List Av×Unit) (n:Int) (h0: -1<=n) (h1:n<=1099511627776) (hl:d.1.length<=9223372036854775807/\(∀(i:Nat) x,d.1[i]? =some x->Mn x)):Aop d (n,())=some (szR (d.1.length+Af Bh d.1) n,()):=by
 obtain⟨hl1,hl2⟩:=hl
 unfold Aop Amu
 simp only[Ad,Ae,Aa,Ag,Az]
 rw[w64 (by omega)]
 by_cases h:(d.1.length:Int)<=n
 .rw[Bk (by omega),Aj,Bd4 Bh (l:=d.1) (fun n' i x hx hi h0' h1'=>by
    have hlx:=hl2 i x hx
    unfold Wv
    simp only[Ad,Ae,Aa,Ag,Az,Bw hi,Ay,Bc hx,Ab]
    rw[Arf x n' h0' h1' (by exact hlx),Ab]
    rw[w64 (by omega)]) (fun n'=>by
    unfold Wv
    simp only[Ad,Ae,Aa,Ag,Az,B7,Aj]) (by omega) (by omega),<-J3]
  unfold szR
  rw[if_pos h]
 .rw[Ai (by omega),Ay]
  unfold szR
  rw[if_neg (by omega)]
theorem Akm (d:List Av×Unit) (h:d.1.length+Af Bh d.1<=4294967296):Aos d=some d:=by
 have e:=fun(m:List Av) (hm:m.length=d.1.length)=>Ahu (B:=Q4) (m:=m) (l:=d.1) (ok:=fun _=>True) (fun m i x y hx hi hy=>by
  unfold Q4
  simp only[Ad,Ae,Aa,Ag,Az,Bw hi,Ay,Bc hx,Bc hy,Ab,Int.toNat_natCast]
  have hx2:=Gj (f:=Bh) hx
  rw[Ahw x (by first|omega|(simp only[Bh]at*;omega)),Ab]
  try simp only[Bc hy,Ab,Int.toNat_natCast]
  rw[w64 (by omega)]) (fun m=>by
  unfold Q4
  simp only[Ad,Ae,Aa,Ag,Az,B7,Aj]) hm
 unfold Aos Amy
 simp only[Ad,Ae,Aa,Ag,Az,decide_true]
 rw[Ai (by omega),Ai (by omega),Ar,Ar,Ar,e _ (by simp)]
 rfl
theorem Tt (d:List Av×Unit) (h:d.1.length+Af Bh d.1<=4294967296):Ao5 d d=some (true,()):=by
 have e:=Zj (B:=Rg) (l:=d.1) (fun i x hx hi=>by
  unfold Rg
  simp only[Ad,Ae,Aa,Ag,Az,Bw hi,Ay,Bc hx,Ab,B5,Aj]
  have hx2:=Gj (f:=Bh) hx
  rw[Vc x (by first|omega|(simp only[Bh]at*;omega)),Ab]
  try simp only[Bool.not_true,Aj]
  rw[w64 (by omega)]) (by
  unfold Rg
  simp only[Ad,Ae,Aa,Ag,Az,B7,Aj])
 unfold Ao5 Aof
 simp only[Ad,Ae,Aa,Ag,Az,B5,Aj]
 rw[e]
 rfl
theorem Vd (d:List Av×Unit) (k:Int) (h0:0<=k) (h1:k+(Af Ej d.1:Nat)<=4611686018427387904):Agj d (k,())=some ((k+(Af Ej d.1:Nat),()),(mkL Arc Ej d.1 k,())):=by
 have hl:=Ew (w:=Ej) (fun x=>by simp only[Ej];omega) d.1
 have e:=Pw (B:=Mx) Arc Ej (l:=d.1) (fun t k i x ht hx hlen h0 h1 hi=>by
  have hit:i<t.length:=by omega
  have hw:Ej x=1+1+Af w_B x.2.2.1+1:=rfl
  have hk:k+((Ej x:Nat):Int)=k+1+1+(Af w_B x.2.2.1:Nat)+1:=by simp only[Ej];all_goals omega
  rw[hk]
  unfold Mx
  simp (maxSteps:=4000000) only[Ad,Ae,Aa,Ag,Az,Bw hit,Ay,Bc ht,Ab,Int.toNat_natCast]
  simp (maxSteps:=4000000) (disch:=first|omega|(dsimp only;omega)|(simp only[List.length_set];omega)) only[w64,Zg,List.set_set,Ab,Int.toNat_natCast,Ar,Ai,He,Hz,Qp,Py,Tr]
  rfl) (fun t k hlen=>by
  unfold Mx
  exact(Ad _ _ _).trans ((Ce (by simp[hlen])).trans rfl)) h0 h1
 unfold Agj Af7
 simp only[Ad,Ae,Aa,Ag,Az]
 rw[e]
 rfl
theorem Ve (d:List Av) (k:Int) (h0:0<=k) (h1:k+(Af Ej d:Nat)<=4611686018427387904):Agm (mkL Arc Ej d k,()) (k,())=some (k+(Af Ej d:Nat),()):=by
 have hl:=Ew (w:=Ej) (fun x=>by simp only[Ej];omega) d
 have e:=Px (B:=M4) Arc Ej (l:=d) (k:=k) (fun k i x ht hx h0 h1 hi=>by
  have hk:k+((Ej x:Nat):Int)=k+1+1+(Af w_B x.2.2.1:Nat)+1:=by simp only[Ej];all_goals omega
  have hw:Ej x=1+1+Af w_B x.2.2.1+1:=rfl
  rw[hk]
  unfold M4
  simp only[Ad,Ae,Aa,Ag,Az,Fv,Bw hi,Ay,Bc ht,Ab,Arc,B5,Aj]
  simp (maxSteps:=4000000) (disch:=first|omega|(dsimp only;omega)) only[w64,Ab,B5,beq_self_eq_true,Bool.not_true,Aj,Pj,Ar,Ai,Ib,H0,N4,Nk,Ts]) (fun k=>by
  unfold M4
  simp only[Ad,Ae,Aa,Ag,Az,Fv,B7,Aj]) h0 h1
 unfold Agm Agb
 simp only[Ad,Ae,Aa,Ag,Az]
 rw[e]
 rfl
theorem A7v (d:Bd) (n:Int) (h0: -1<=n) (h1:n<=1099511627776) (hl:Ac0 d):Aoq d (n,())=some (szR (A8 d) n,()):=by
 unfold Ac0 at hl
 obtain⟨hl0,hl1⟩:=hl
 unfold Aoq Amv
 simp only[Ad,Ae,Aa,Ag,Az]
 simp (disch:=first|omega|(dsimp only;omega)|exact Wi _ _|exact Tq (by omega) (by omega)|((repeat' (first|assumption|apply And.intro));done)|((first|unfold Ac0|unfold Rl|unfold Pk|unfold Wg|unfold Ahg|unfold Zh|unfold Ard|unfold Mn);dsimp only;(repeat' (first|assumption|apply And.intro));done)) only[Ly,Kz,Abj,Zk,Zl,Akl,A3k,Are,Arf,Awf,Ab,J3]
 all_goals try simp (disch:=first|omega|(simp only[A8,Bs,Bo,Bv,Bi,Aw,Da,Bh];omega)) only[Apb]
 all_goals (first|rfl|(refine congrArg (fun t=>some (szR t n,())) ?_;simp only[A8,Bs,Bo,Bv,Bi,Aw,Da,Bh];omega))
theorem Awg (d:Bd) (h:A8 d<=4294967296):Aot d=some d:=by
 have hn:A8 d=d.2.2.1.length+Af Bh d.2.2.1:=rfl
 unfold Aot Amz
 simp only[Ad,Ae,Aa,Ag,Az]
 simp (disch:=first|omega|(simp only[A8,Bs,Bo,Bv,Bi,Aw,Da,Bh];omega)) only[Iy,Jh,Wj,U9,Va,Ae4,Awe,Ahv,Ac1,Ahw,Akm,Ab]
 all_goals rfl
theorem Xn (d:Bd) (h:A8 d<=4294967296):Ao6 d d=some (true,()):=by
 have hn:A8 d=d.2.2.1.length+Af Bh d.2.2.1:=rfl
 unfold Ao6 Aog
 simp (disch:=first|omega|(simp only[A8,Bs,Bo,Bv,Bi,Aw,Da,Bh];omega)) only[Ad,Ae,Aa,Ag,Az,B5,beq_self_eq_true,Aj,Ab,Bool.not_true,Fw,Fx,Nj,Le,Lf,Rm,Abk,Sc,Vb,Vc,Tt]
theorem Bd5 (d:Al) (n:Int) (h0: -1<=n) (h1:n<=1099511627776) (hl:Sb d):Ava d (n,())=some (szR (Ap d) n,()):=by
 unfold Sb at hl
 obtain⟨hl0,hl1,hl2,hl3,hl4,hl5,hl6,hl7,hl8,hl9⟩:=hl
 unfold Ava Ask
 simp only[Ad,Ae,Aa,Ag,Az]
 simp (disch:=first|omega|(dsimp only;omega)|exact Wi _ _|exact Tq (by omega) (by omega)|((repeat' (first|assumption|apply And.intro));done)|((first|unfold Sb|unfold Rl|unfold Pk|unfold Wg|unfold Ahg|unfold Zh|unfold Ard|unfold Mn|unfold Ac0);dsimp only;(repeat' (first|assumption|apply And.intro));done)) only[Ly,Kz,Abj,Zk,Zl,Akl,A3k,Are,Arf,Awf,A7v,Ab,J3]
 all_goals try simp (disch:=first|omega|(simp only[Ap,Bs,Bo,Bv,Bi,Aw,Da,Bh,A8];omega)) only[Apb]
 all_goals (first|rfl|(refine congrArg (fun t=>some (szR t n,())) ?_;simp only[Ap,Bs,Bo,Bv,Bi,Aw,Da,Bh,A8];omega))
theorem A3l (d:Al) (h:Ap d<=4294967296):Avg d=some d:=by
 have hn:Ap d=d.2.1.length+d.2.2.1.length+d.2.2.2.2.1.length+d.2.2.2.2.2.2.1.length+d.2.2.2.2.2.2.2.2.2.1.length+d.2.2.2.2.2.2.2.2.2.2.2.1.length+d.2.2.2.2.2.2.2.2.2.2.2.2.2.2.1.length+d.2.2.2.2.2.2.2.2.2.2.2.2.2.2.2.2.2.1.length+d.2.2.2.2.2.2.2.2.2.2.2.2.2.2.2.2.2.2.2.2.1.length+Af Bh d.2.2.2.2.2.2.2.2.2.2.2.2.2.2.2.2.2.2.2.2.1:=rfl
 unfold Avg Asq
 simp only[Ad,Ae,Aa,Ag,Az]
 simp (disch:=first|omega|(simp only[Ap,Bs,Bo,Bv,Bi,Aw,Da,Bh,A8];omega)) only[Iy,Jh,Wj,U9,Va,Ae4,Awe,Ahv,Ac1,Ahw,Akm,Awg,Ab]
 all_goals rfl
theorem Ac2 (d:Al) (h:Ap d<=4294967296):Awb d d=some (true,()):=by
 have hn:Ap d=d.2.1.length+d.2.2.1.length+d.2.2.2.2.1.length+d.2.2.2.2.2.2.1.length+d.2.2.2.2.2.2.2.2.2.1.length+d.2.2.2.2.2.2.2.2.2.2.2.1.length+d.2.2.2.2.2.2.2.2.2.2.2.2.2.2.1.length+d.2.2.2.2.2.2.2.2.2.2.2.2.2.2.2.2.2.1.length+d.2.2.2.2.2.2.2.2.2.2.2.2.2.2.2.2.2.2.2.2.1.length+Af Bh d.2.2.2.2.2.2.2.2.2.2.2.2.2.2.2.2.2.2.2.2.1:=rfl
 unfold Awb Au2
 simp (disch:=first|omega|(simp only[Ap,Bs,Bo,Bv,Bi,Aw,Da,Bh,A8];omega)) only[Ad,Ae,Aa,Ag,Az,B5,beq_self_eq_true,Aj,Ab,Bool.not_true,Fw,Fx,Nj,Le,Lf,Rm,Abk,Sc,Vb,Vc,Tt,Xn]
theorem Bk8 (d:List Al×Unit) (n:Int) (h0: -1<=n) (h1:n<=1099511627776) (hl:d.1.length<=9223372036854775807/\(∀(i:Nat) x,d.1[i]? =some x->Sb x)):Aor d (n,())=some (szR (d.1.length+Af Ap d.1) n,()):=by
 obtain⟨hl1,hl2⟩:=hl
 unfold Aor Amw
 simp only[Ad,Ae,Aa,Ag,Az]
 rw[w64 (by omega)]
 by_cases h:(d.1.length:Int)<=n
 .rw[Bk (by omega),Aj,Bd4 Ap (l:=d.1) (fun n' i x hx hi h0' h1'=>by
    have hlx:=hl2 i x hx
    unfold Ww
    simp only[Ad,Ae,Aa,Ag,Az,Bw hi,Ay,Bc hx,Ab]
    rw[Bd5 x n' h0' h1' (by exact hlx),Ab]
    rw[w64 (by omega)]) (fun n'=>by
    unfold Ww
    simp only[Ad,Ae,Aa,Ag,Az,B7,Aj]) (by omega) (by omega),<-J3]
  unfold szR
  rw[if_pos h]
 .rw[Ai (by omega),Ay]
  unfold szR
  rw[if_neg (by omega)]
theorem A7w (d:List Al×Unit) (h:d.1.length+Af Ap d.1<=4294967296):Aou d=some d:=by
 have e:=fun(m:List Al) (hm:m.length=d.1.length)=>Ahu (B:=Q5) (m:=m) (l:=d.1) (ok:=fun _=>True) (fun m i x y hx hi hy=>by
  unfold Q5
  simp only[Ad,Ae,Aa,Ag,Az,Bw hi,Ay,Bc hx,Bc hy,Ab,Int.toNat_natCast]
  have hx2:=Gj (f:=Ap) hx
  rw[A3l x (by first|omega|(simp only[Ap]at*;omega)),Ab]
  try simp only[Bc hy,Ab,Int.toNat_natCast]
  rw[w64 (by omega)]) (fun m=>by
  unfold Q5
  simp only[Ad,Ae,Aa,Ag,Az,B7,Aj]) hm
 unfold Aou Am0
 simp only[Ad,Ae,Aa,Ag,Az,decide_true]
 rw[Ai (by omega),Ai (by omega),Ar,Ar,Ar,e _ (by simp)]
 rfl
theorem Ac3 (d:List Al×Unit) (h:d.1.length+Af Ap d.1<=4294967296):Ao7 d d=some (true,()):=by
 have e:=Zj (B:=Rh) (l:=d.1) (fun i x hx hi=>by
  unfold Rh
  simp only[Ad,Ae,Aa,Ag,Az,Bw hi,Ay,Bc hx,Ab,B5,Aj]
  have hx2:=Gj (f:=Ap) hx
  rw[Ac2 x (by first|omega|(simp only[Ap]at*;omega)),Ab]
  try simp only[Bool.not_true,Aj]
  rw[w64 (by omega)]) (by
  unfold Rh
  simp only[Ad,Ae,Aa,Ag,Az,B7,Aj])
 unfold Ao7 Aoh
 simp only[Ad,Ae,Aa,Ag,Az,B5,Aj]
 rw[e]
 rfl
theorem Abl (d:List Al×Unit) (k:Int) (h0:0<=k) (h1:k+(Af Dp d.1:Nat)<=4611686018427387904):Agk d (k,())=some ((k+(Af Dp d.1:Nat),()),(mkL Wh Dp d.1 k,())):=by
 have hl:=Ew (w:=Dp) (fun x=>by simp only[Dp];omega) d.1
 have e:=Pw (B:=My) Wh Dp (l:=d.1) (fun t k i x ht hx hlen h0 h1 hi=>by
  have hit:i<t.length:=by omega
  have hw:Dp x=1+Af w_B x.2.1+Af w_B x.2.2.1+1+Af w_B x.2.2.2.2.1+1+Af w_B x.2.2.2.2.2.2.1+1+1+Af w_I x.2.2.2.2.2.2.2.2.2.1+1+Af w_B x.2.2.2.2.2.2.2.2.2.2.2.1+1+1+Af w_I x.2.2.2.2.2.2.2.2.2.2.2.2.2.2.1+1+1+Af w_B x.2.2.2.2.2.2.2.2.2.2.2.2.2.2.2.2.2.1+1+1+Af Ej x.2.2.2.2.2.2.2.2.2.2.2.2.2.2.2.2.2.2.2.2.1+1+1+1:=rfl
  have hk:k+((Dp x:Nat):Int)=k+1+(Af w_B x.2.1:Nat)+(Af w_B x.2.2.1:Nat)+1+(Af w_B x.2.2.2.2.1:Nat)+1+(Af w_B x.2.2.2.2.2.2.1:Nat)+1+1+(Af w_I x.2.2.2.2.2.2.2.2.2.1:Nat)+1+(Af w_B x.2.2.2.2.2.2.2.2.2.2.2.1:Nat)+1+1+(Af w_I x.2.2.2.2.2.2.2.2.2.2.2.2.2.2.1:Nat)+1+1+(Af w_B x.2.2.2.2.2.2.2.2.2.2.2.2.2.2.2.2.2.1:Nat)+1+1+(Af Ej x.2.2.2.2.2.2.2.2.2.2.2.2.2.2.2.2.2.2.2.2.1:Nat)+1+1+1:=by simp only[Dp];all_goals omega
  rw[hk]
  unfold My
  simp (maxSteps:=4000000) only[Ad,Ae,Aa,Ag,Az,Bw hit,Ay,Bc ht,Ab,Int.toNat_natCast]
  simp (maxSteps:=4000000) (disch:=first|omega|(dsimp only;omega)|(simp only[List.length_set];omega)) only[w64,Zg,List.set_set,Ab,Int.toNat_natCast,Ar,Ai,He,Hz,Qp,Py,Tr,Vd]
  rfl) (fun t k hlen=>by
  unfold My
  exact(Ad _ _ _).trans ((Ce (by simp[hlen])).trans rfl)) h0 h1
 unfold Agk Af8
 simp only[Ad,Ae,Aa,Ag,Az]
 rw[e]
 rfl
theorem Abm (d:List Al) (k:Int) (h0:0<=k) (h1:k+(Af Dp d:Nat)<=4611686018427387904):Agn (mkL Wh Dp d k,()) (k,())=some (k+(Af Dp d:Nat),()):=by
 have hl:=Ew (w:=Dp) (fun x=>by simp only[Dp];omega) d
 have e:=Px (B:=M5) Wh Dp (l:=d) (k:=k) (fun k i x ht hx h0 h1 hi=>by
  have hk:k+((Dp x:Nat):Int)=k+1+(Af w_B x.2.1:Nat)+(Af w_B x.2.2.1:Nat)+1+(Af w_B x.2.2.2.2.1:Nat)+1+(Af w_B x.2.2.2.2.2.2.1:Nat)+1+1+(Af w_I x.2.2.2.2.2.2.2.2.2.1:Nat)+1+(Af w_B x.2.2.2.2.2.2.2.2.2.2.2.1:Nat)+1+1+(Af w_I x.2.2.2.2.2.2.2.2.2.2.2.2.2.2.1:Nat)+1+1+(Af w_B x.2.2.2.2.2.2.2.2.2.2.2.2.2.2.2.2.2.1:Nat)+1+1+(Af Ej x.2.2.2.2.2.2.2.2.2.2.2.2.2.2.2.2.2.2.2.2.1:Nat)+1+1+1:=by simp only[Dp];all_goals omega
  have hw:Dp x=1+Af w_B x.2.1+Af w_B x.2.2.1+1+Af w_B x.2.2.2.2.1+1+Af w_B x.2.2.2.2.2.2.1+1+1+Af w_I x.2.2.2.2.2.2.2.2.2.1+1+Af w_B x.2.2.2.2.2.2.2.2.2.2.2.1+1+1+Af w_I x.2.2.2.2.2.2.2.2.2.2.2.2.2.2.1+1+1+Af w_B x.2.2.2.2.2.2.2.2.2.2.2.2.2.2.2.2.2.1+1+1+Af Ej x.2.2.2.2.2.2.2.2.2.2.2.2.2.2.2.2.2.2.2.2.1+1+1+1:=rfl
  rw[hk]
  unfold M5
  simp only[Ad,Ae,Aa,Ag,Az,Fv,Bw hi,Ay,Bc ht,Ab,Wh,B5,Aj]
  simp (maxSteps:=4000000) (disch:=first|omega|(dsimp only;omega)) only[w64,Ab,B5,beq_self_eq_true,Bool.not_true,Aj,Pj,Ar,Ai,Ib,H0,N4,Nk,Ts,Ve]) (fun k=>by
  unfold M5
  simp only[Ad,Ae,Aa,Ag,Az,Fv,B7,Aj]) h0 h1
 unfold Agn Agc
 simp only[Ad,Ae,Aa,Ag,Az]
 rw[e]
 rfl
theorem B1j (d:B8) (n:Int) (h0: -1<=n) (h1:n<=1099511627776) (hl:Bbb d):A1j d (n,())=some (szR (Bj d) n,()):=by
 unfold Bbb at hl
 obtain⟨hl0,hl1⟩:=hl
 unfold A1j Ayz
 simp only[Ad,Ae,Aa,Ag,Az]
 simp (disch:=first|omega|(dsimp only;omega)|exact Wi _ _|exact Tq (by omega) (by omega)|((repeat' (first|assumption|apply And.intro));done)|((first|unfold Bbb|unfold Rl|unfold Pk|unfold Wg|unfold Ahg|unfold Zh|unfold Ard|unfold Mn|unfold Ac0|unfold Sb);dsimp only;(repeat' (first|assumption|apply And.intro));done)) only[Ly,Kz,Abj,Zk,Zl,Akl,A3k,Are,Arf,Awf,A7v,Bd5,Bk8,Ab,J3]
 all_goals try simp (disch:=first|omega|(simp only[Bj,Bs,Bo,Bv,Bi,Aw,Da,Bh,A8,Ap];omega)) only[Apb]
 all_goals (first|rfl|(refine congrArg (fun t=>some (szR t n,())) ?_;simp only[Bj,Bs,Bo,Bv,Bi,Aw,Da,Bh,A8,Ap];omega))
theorem Buv (d:B8) (h:Bj d<=4294967296):A1m d=some d:=by
 have hn:Bj d=d.2.1.length+Af Ap d.2.1:=rfl
 unfold A1m Ay4
 simp only[Ad,Ae,Aa,Ag,Az]
 simp (disch:=first|omega|(simp only[Bj,Bs,Bo,Bv,Bi,Aw,Da,Bh,A8,Ap];omega)) only[Iy,Jh,Wj,U9,Va,Ae4,Awe,Ahv,Ac1,Ahw,Akm,Awg,A3l,A7w,Ab]
 all_goals rfl
theorem A17 (d:B8) (h:Bj d<=4294967296):A12 d d=some (true,()):=by
 have hn:Bj d=d.2.1.length+Af Ap d.2.1:=rfl
 unfold A12 A07
 simp (disch:=first|omega|(simp only[Bj,Bs,Bo,Bv,Bi,Aw,Da,Bh,A8,Ap];omega)) only[Ad,Ae,Aa,Ag,Az,B5,beq_self_eq_true,Aj,Ab,Bool.not_true,Fw,Fx,Nj,Le,Lf,Rm,Abk,Sc,Vb,Vc,Tt,Xn,Ac2,Ac3]
theorem Awh (d:B8) (k:Int) (h0:0<=k) (h1:k+(Ke d:Nat)<=4611686018427387904) (hl:Bj d<=4294967296):Apa d (k,())=some ((k+(Ke d:Nat),()),(d.1,mkL Wh Dp d.2.1 (k),())):=by
 have hn:Bj d=d.2.1.length+Af Ap d.2.1:=rfl
 have hw:Ke d=Af Dp d.2.1:=rfl
 have hk:k+((Ke d:Nat):Int)=k+(Af Dp d.2.1:Nat):=by simp only[Ke];all_goals omega
 rw[hk]
 unfold Apa Aol
 simp (maxSteps:=4000000) (disch:=first|omega|(dsimp only;omega)) only[Ad,Ae,Aa,Ag,Az,Ab,He,Hz,Qp,Py,Tr,Vd,Abl]
theorem Akn (d:B8) (k:Int) (h0:0<=k) (h1:k+(Ke d:Nat)<=4611686018427387904) (hl:Bj d<=4294967296):Aej (d.1,mkL Wh Dp d.2.1 (k),()) (k,())=some (k+(Ke d:Nat),()):=by
 have hn:Bj d=d.2.1.length+Af Ap d.2.1:=rfl
 have hw:Ke d=Af Dp d.2.1:=rfl
 have hk:k+((Ke d:Nat):Int)=k+(Af Dp d.2.1:Nat):=by simp only[Ke];all_goals omega
 rw[hk]
 unfold Aej Aon
 simp (maxSteps:=4000000) (disch:=first|omega|(dsimp only;omega)) only[Ad,Ae,Aa,Ag,Az,Ab,Aj,Pj,Ib,H0,N4,Nk,Ts,Ve,Abm]
theorem Buw (c0:Int) (c1:List Al) (k:Int) (h0:0<=k) (h1:k+(Ke (c0,c1,()):Nat)<=4611686018427387904) (hl:Bj (c0,c1,())<=4294967296):Aej (c0,mkL Wh Dp c1 (k),()) (k,())=some (k+(Ke (c0,c1,()):Nat),()):=Akn (c0,c1,()) k h0 h1 hl
theorem Bgm (d:Ak):Ajz d=some d:=by
 have hn:G7 d=0:=rfl
 unfold Ajz Aic
 simp only[Ad,Ae,Aa,Ag,Az]
 simp (disch:=first|omega|(simp only[G7,Bs,Bo,Bv,Bi,Aw,Da,Bh,A8,Ap,Bj];omega)) only[Iy,Jh,Wj,U9,Va,Ae4,Awe,Ahv,Ac1,Ahw,Akm,Awg,A3l,A7w,Buv,Ab]
 all_goals rfl
theorem Ae5 (d:Ak):Aki d d=some (true,()):=by
 have hn:G7 d=0:=rfl
 unfold Aki Ajo
 simp (disch:=first|omega|(simp only[G7,Bs,Bo,Bv,Bi,Aw,Da,Bh,A8,Ap,Bj];omega)) only[Ad,Ae,Aa,Ag,Az,B5,beq_self_eq_true,Aj,Ab,Bool.not_true,Fw,Fx,Nj,Le,Lf,Rm,Abk,Sc,Vb,Vc,Tt,Xn,Ac2,Ac3,A17]
theorem Br2 (d:List Ak×Unit) (n:Int) (h0: -1<=n) (h1:n<=1099511627776) (hl:d.1.length<=9223372036854775807):Age d (n,())=some (szR (d.1.length) n,()):=by
 unfold Age Afg
 simp only[Ad,Aa]
 simp (disch:=omega) only[w64]
 unfold szR
 rw[Awd]
 by_cases h:(d.1.length:Int)<=n
 .simp only[decide_eq_true_eq,if_neg (show ¬(n-(d.1.length:Int)<0) by omega),if_pos h]
 .simp only[decide_eq_true_eq,if_pos (show n-(d.1.length:Int)<0 by omega),if_neg h]
theorem Br3 (d:List Ak×Unit) (h:d.1.length<=4294967296):Agf d=some d:=by
 have e:=fun(m:List Ak) (hm:m.length=d.1.length)=>Ahu (B:=Mp) (m:=m) (l:=d.1) (ok:=fun _=>True) (fun m i x y hx hi hy=>by
  unfold Mp
  simp only[Ad,Ae,Aa,Ag,Az,Bw hi,Ay,Bc hx,Bc hy,Ab,Int.toNat_natCast]
  rw[Bgm x,Ab]
  try simp only[Bc hy,Ab,Int.toNat_natCast]
  rw[w64 (by omega)]) (fun m=>by
  unfold Mp
  simp only[Ad,Ae,Aa,Ag,Az,B7,Aj]) hm
 unfold Agf Afh
 simp only[Ad,Ae,Aa,Ag,Az,decide_true]
 rw[Ai (by omega),Ai (by omega),Ar,Ar,Ar,e _ (by simp)]
 rfl
theorem Ahh (d:List Ak×Unit) (h:d.1.length<=4294967296):Agi d d=some (true,()):=by
 have e:=Zj (B:=Mv) (l:=d.1) (fun i x hx hi=>by
  unfold Mv
  simp only[Ad,Ae,Aa,Ag,Az,Bw hi,Ay,Bc hx,Ab,B5,Aj]
  rw[Ae5 x,Ab]
  try simp only[Bool.not_true,Aj]
  rw[w64 (by omega)]) (by
  unfold Mv
  simp only[Ad,Ae,Aa,Ag,Az,B7,Aj])
 unfold Agi Af5
 simp only[Ad,Ae,Aa,Ag,Az,B5,Aj]
 rw[e]
 rfl
theorem Ako (d:List Ak×Unit) (k:Int) (h0:0<=k) (h1:k+(Af Du d.1:Nat)<=4611686018427387904):Abe d (k,())=some ((k+(Af Du d.1:Nat),()),(mkL Xm Du d.1 k,())):=by
 have hl:=Ew (w:=Du) (fun x=>by simp only[Du];omega) d.1
 have e:=Pw (B:=Ka) Xm Du (l:=d.1) (fun t k i x ht hx hlen h0 h1 hi=>by
  have hit:i<t.length:=by omega
  have hw:Du x=1+1+1+1:=rfl
  have hk:k+((Du x:Nat):Int)=k+1+1+1+1:=by simp only[Du];all_goals omega
  rw[hk]
  unfold Ka
  simp (maxSteps:=4000000) only[Ad,Ae,Aa,Ag,Az,Bw hit,Ay,Bc ht,Ab,Int.toNat_natCast]
  simp (maxSteps:=4000000) (disch:=first|omega|(dsimp only;omega)|(simp only[List.length_set];omega)) only[w64,Zg,List.set_set,Ab,Int.toNat_natCast,Ar,Ai,He,Hz,Qp,Py,Tr,Vd,Abl,Awh]
  rfl) (fun t k hlen=>by
  unfold Ka
  exact(Ad _ _ _).trans ((Ce (by simp[hlen])).trans rfl)) h0 h1
 unfold Abe Aaz
 simp only[Ad,Ae,Aa,Ag,Az]
 rw[e]
 rfl
theorem Akp (d:List Ak) (k:Int) (h0:0<=k) (h1:k+(Af Du d:Nat)<=4611686018427387904):Abh (mkL Xm Du d k,()) (k,())=some (k+(Af Du d:Nat),()):=by
 have hl:=Ew (w:=Du) (fun x=>by simp only[Du];omega) d
 have e:=Px (B:=Kb) Xm Du (l:=d) (k:=k) (fun k i x ht hx h0 h1 hi=>by
  have hk:k+((Du x:Nat):Int)=k+1+1+1+1:=by simp only[Du];all_goals omega
  have hw:Du x=1+1+1+1:=rfl
  rw[hk]
  unfold Kb
  simp only[Ad,Ae,Aa,Ag,Az,Fv,Bw hi,Ay,Bc ht,Ab,Xm,B5,Aj]
  simp (maxSteps:=4000000) (disch:=first|omega|(dsimp only;omega)) only[w64,Ab,B5,beq_self_eq_true,Bool.not_true,Aj,Pj,Ar,Ai,Ib,H0,N4,Nk,Ts,Ve,Abm,Akn]) (fun k=>by
  unfold Kb
  simp only[Ad,Ae,Aa,Ag,Az,Fv,B7,Aj]) h0 h1
 unfold Abh Aa0
 simp only[Ad,Ae,Aa,Ag,Az]
 rw[e]
 rfl
theorem Bux (d:A0) (n:Int) (h0: -1<=n) (h1:n<=1099511627776) (hl:Zi d):Ajx d (n,())=some (szR (A7 d) n,()):=by
 unfold Zi at hl
 obtain⟨hl0,hl1,hl2,hl3,hl4,hl5,hl6⟩:=hl
 unfold Ajx Aia
 simp only[Ad,Ae,Aa,Ag,Az]
 simp (disch:=first|omega|(dsimp only;omega)|exact Wi _ _|exact Tq (by omega) (by omega)|((repeat' (first|assumption|apply And.intro));done)|((first|unfold Zi|unfold Rl|unfold Pk|unfold Wg|unfold Ahg|unfold Zh|unfold Ard|unfold Mn|unfold Ac0|unfold Sb|unfold Bbb|unfold Bus);dsimp only;(repeat' (first|assumption|apply And.intro));done)) only[Ly,Kz,Abj,Zk,Zl,Akl,A3k,Are,Arf,Awf,A7v,Bd5,Bk8,B1j,Br2,Ab,J3]
 all_goals try simp (disch:=first|omega|(simp only[A7,Bs,Bo,Bv,Bi,Aw,Da,Bh,A8,Ap,Bj,G7];omega)) only[Apb]
 all_goals (first|rfl|(refine congrArg (fun t=>some (szR t n,())) ?_;simp only[A7,Bs,Bo,Bv,Bi,Aw,Da,Bh,A8,Ap,Bj,G7];omega))
theorem Buy (d:A0) (h:A7 d<=4294967296):Pc d=some d:=by
 have hn:A7 d=d.1.length+Af Cy d.1+d.2.1.length+d.2.2.1.length+d.2.2.2.2.2.1.length+Af Ap d.2.2.2.2.2.1+d.2.2.2.2.2.2.1.length:=rfl
 unfold Pc Aid
 simp only[Ad,Ae,Aa,Ag,Az]
 simp (disch:=first|omega|(simp only[A7,Bs,Bo,Bv,Bi,Aw,Da,Bh,A8,Ap,Bj,G7];omega)) only[Iy,Jh,Wj,U9,Va,Ae4,Awe,Ahv,Ac1,Ahw,Akm,Awg,A3l,A7w,Buv,Bgm,Br3,Ab]
 all_goals rfl
theorem Al9 (d:A0) (h:A7 d<=4294967296):Pi d d=some (true,()):=by
 have hn:A7 d=d.1.length+Af Cy d.1+d.2.1.length+d.2.2.1.length+d.2.2.2.2.2.1.length+Af Ap d.2.2.2.2.2.1+d.2.2.2.2.2.2.1.length:=rfl
 unfold Pi Ajp
 simp (disch:=first|omega|(simp only[A7,Bs,Bo,Bv,Bi,Aw,Da,Bh,A8,Ap,Bj,G7];omega)) only[Ad,Ae,Aa,Ag,Az,B5,beq_self_eq_true,Aj,Ab,Bool.not_true,Fw,Fx,Nj,Le,Lf,Rm,Abk,Sc,Vb,Vc,Tt,Xn,Ac2,Ac3,A17,Ae5,Ahh]
theorem Apc (d:A0) (k:Int) (h0:0<=k) (h1:k+(Ip d:Nat)<=4611686018427387904) (hl:A7 d<=4294967296):U7 d (k,())=some ((k+(Ip d:Nat),()),(mkL A7u G6 d.1 (k),mkL m_B w_B d.2.1 (k+(Af G6 d.1:Nat)),mkL m_B w_B d.2.2.1 (k+(Af G6 d.1:Nat)+(Af w_B d.2.1:Nat)),d.2.2.2.1,d.2.2.2.2.1,mkL Wh Dp d.2.2.2.2.2.1 (k+(Af G6 d.1:Nat)+(Af w_B d.2.1:Nat)+(Af w_B d.2.2.1:Nat)),mkL Xm Du d.2.2.2.2.2.2.1 (k+(Af G6 d.1:Nat)+(Af w_B d.2.1:Nat)+(Af w_B d.2.2.1:Nat)+(Af Dp d.2.2.2.2.2.1:Nat)),())):=by
 have hn:A7 d=d.1.length+Af Cy d.1+d.2.1.length+d.2.2.1.length+d.2.2.2.2.2.1.length+Af Ap d.2.2.2.2.2.1+d.2.2.2.2.2.2.1.length:=rfl
 have hw:Ip d=Af G6 d.1+Af w_B d.2.1+Af w_B d.2.2.1+Af Dp d.2.2.2.2.2.1+Af Du d.2.2.2.2.2.2.1:=rfl
 have hk:k+((Ip d:Nat):Int)=k+(Af G6 d.1:Nat)+(Af w_B d.2.1:Nat)+(Af w_B d.2.2.1:Nat)+(Af Dp d.2.2.2.2.2.1:Nat)+(Af Du d.2.2.2.2.2.2.1:Nat):=by simp only[Ip];all_goals omega
 rw[hk]
 unfold U7 Acl
 simp (maxSteps:=4000000) (disch:=first|omega|(dsimp only;omega)|(simp only[Bs,Kd,Bo,Ik,Bj,Ke,Int.natCast_add];omega)) only[Ad,Ae,Aa,Ag,Az,Ab,He,Hz,Qp,Py,Tr,Vd,Abl,Awh,Ako,Kd,Ik,Ke,Int.natCast_add,<-Int.add_assoc]
theorem Apd (d:A0) (k:Int) (h0:0<=k) (h1:k+(Ip d:Nat)<=4611686018427387904) (hl:A7 d<=4294967296):U8 (mkL A7u G6 d.1 (k),mkL m_B w_B d.2.1 (k+(Af G6 d.1:Nat)),mkL m_B w_B d.2.2.1 (k+(Af G6 d.1:Nat)+(Af w_B d.2.1:Nat)),d.2.2.2.1,d.2.2.2.2.1,mkL Wh Dp d.2.2.2.2.2.1 (k+(Af G6 d.1:Nat)+(Af w_B d.2.1:Nat)+(Af w_B d.2.2.1:Nat)),mkL Xm Du d.2.2.2.2.2.2.1 (k+(Af G6 d.1:Nat)+(Af w_B d.2.1:Nat)+(Af w_B d.2.2.1:Nat)+(Af Dp d.2.2.2.2.2.1:Nat)),()) (k,())=some (k+(Ip d:Nat),()):=by
 have hn:A7 d=d.1.length+Af Cy d.1+d.2.1.length+d.2.2.1.length+d.2.2.2.2.2.1.length+Af Ap d.2.2.2.2.2.1+d.2.2.2.2.2.2.1.length:=rfl
 have hw:Ip d=Af G6 d.1+Af w_B d.2.1+Af w_B d.2.2.1+Af Dp d.2.2.2.2.2.1+Af Du d.2.2.2.2.2.2.1:=rfl
 have hk:k+((Ip d:Nat):Int)=k+(Af G6 d.1:Nat)+(Af w_B d.2.1:Nat)+(Af w_B d.2.2.1:Nat)+(Af Dp d.2.2.2.2.2.1:Nat)+(Af Du d.2.2.2.2.2.2.1:Nat):=by simp only[Ip];all_goals omega
 rw[hk]
 unfold U8 Acn
 simp (maxSteps:=4000000) (disch:=first|omega|(dsimp only;omega)|(simp only[Bs,Kd,Bo,Ik,Bj,Ke,Int.natCast_add];omega)) only[Ad,Ae,Aa,Ag,Az,Ab,Aj,Pj,Ib,H0,N4,Nk,Ts,Ve,Abm,Akn,Akp,Kd,Ik,Ke,Int.natCast_add,<-Int.add_assoc,Buu,Br1,Buw]
theorem Bk9 (d:As) (h:A5 d<=4294967296):Ao8 d d=some (true,()):=by
 have hn:A5 d=d.2.2.1.length+d.2.2.2.1.length+d.2.2.2.2.2.1.length+d.2.2.2.2.2.2.1.length+d.2.2.2.2.2.2.2.2.2.1.length+d.2.2.2.2.2.2.2.2.2.2.1.length:=rfl
 unfold Ao8 Aoi
 simp (disch:=first|omega|(simp only[A5,Bs,Bo,Bv,Bi,Aw,Da,Bh,A8,Ap,Bj,G7,A7];omega)) only[Ad,Ae,Aa,Ag,Az,B5,beq_self_eq_true,Aj,Ab,Bool.not_true,Fw,Fx,Nj,Le,Lf,Rm,Abk,Sc,Vb,Vc,Tt,Xn,Ac2,Ac3,A17,Ae5,Ahh,Al9]
theorem Buz (d:Au) (h:Dv d<=4294967296):A13 d d=some (true,()):=by
 have hn:Dv d=d.2.2.2.2.1.length+d.2.2.2.2.2.1.length+d.2.2.2.2.2.2.2.1.length+d.2.2.2.2.2.2.2.2.1.length+d.2.2.2.2.2.2.2.2.2.2.2.1.length+d.2.2.2.2.2.2.2.2.2.2.2.2.1.length:=rfl
 unfold A13 A1a
 simp (disch:=first|omega|(simp only[Dv,Bs,Bo,Bv,Bi,Aw,Da,Bh,A8,Ap,Bj,G7,A7,A5];omega)) only[Ad,Ae,Aa,Ag,Az,B5,beq_self_eq_true,Aj,Ab,Bool.not_true,Fw,Fx,Nj,Le,Lf,Rm,Abk,Sc,Vb,Vc,Tt,Xn,Ac2,Ac3,A17,Ae5,Ahh,Al9,Bk9]
theorem Bpt (d:List Au×Unit) (h:d.1.length+Af Dv d.1<=4294967296):Abc d d=some (true,()):=by
 have e:=Zj (B:=Ti) (l:=d.1) (fun i x hx hi=>by
  unfold Ti
  simp only[Ad,Ae,Aa,Ag,Az,Bw hi,Ay,Bc hx,Ab,B5,Aj]
  have hx2:=Gj (f:=Dv) hx
  rw[Buz x (by first|omega|(simp only[Dv]at*;omega)),Ab]
  try simp only[Bool.not_true,Aj]
  rw[w64 (by omega)]) (by
  unfold Ti
  simp only[Ad,Ae,Aa,Ag,Az,B7,Aj])
 unfold Abc Au3
 simp only[Ad,Ae,Aa,Ag,Az,B5,Aj]
 rw[e]
 rfl
theorem Bgn (d:List Au×Unit) (k:Int) (h0:0<=k) (h1:k+(Af I7 d.1:Nat)<=4611686018427387904):Akk d (k,())=some ((k+(Af I7 d.1:Nat),()),(mkL Bbc I7 d.1 k,())):=by
 have hl:=Ew (w:=I7) (fun x=>by simp only[I7];omega) d.1
 have e:=Pw (B:=O9) Bbc I7 (l:=d.1) (fun t k i x ht hx hlen h0 h1 hi=>by
  have hit:i<t.length:=by omega
  have hw:I7 x=1+1+1+1+Af w_B x.2.2.2.2.1+Af w_B x.2.2.2.2.2.1+1+Af w_B x.2.2.2.2.2.2.2.1+Af w_B x.2.2.2.2.2.2.2.2.1+1+1+Af w_B x.2.2.2.2.2.2.2.2.2.2.2.1+Af w_B x.2.2.2.2.2.2.2.2.2.2.2.2.1:=rfl
  have hk:k+((I7 x:Nat):Int)=k+1+1+1+1+(Af w_B x.2.2.2.2.1:Nat)+(Af w_B x.2.2.2.2.2.1:Nat)+1+(Af w_B x.2.2.2.2.2.2.2.1:Nat)+(Af w_B x.2.2.2.2.2.2.2.2.1:Nat)+1+1+(Af w_B x.2.2.2.2.2.2.2.2.2.2.2.1:Nat)+(Af w_B x.2.2.2.2.2.2.2.2.2.2.2.2.1:Nat):=by simp only[I7];all_goals omega
  rw[hk]
  unfold O9
  simp (maxSteps:=4000000) only[Ad,Ae,Aa,Ag,Az,Bw hit,Ay,Bc ht,Ab,Int.toNat_natCast]
  simp (maxSteps:=4000000) (disch:=first|omega|(dsimp only;omega)|(simp only[List.length_set];omega)) only[w64,Zg,List.set_set,Ab,Int.toNat_natCast,Ar,Ai,He,Hz,Qp,Py,Tr,Vd,Abl,Awh,Ako,Apc]
  rfl) (fun t k hlen=>by
  unfold O9
  exact(Ad _ _ _).trans ((Ce (by simp[hlen])).trans rfl)) h0 h1
 unfold Akk Ajs
 simp only[Ad,Ae,Aa,Ag,Az]
 rw[e]
 rfl
theorem Bgo (d:List Au) (k:Int) (h0:0<=k) (h1:k+(Af I7 d:Nat)<=4611686018427387904):Abi (mkL Bbc I7 d k,()) (k,())=some (k+(Af I7 d:Nat),()):=by
 have hl:=Ew (w:=I7) (fun x=>by simp only[I7];omega) d
 have e:=Px (B:=Pb) Bbc I7 (l:=d) (k:=k) (fun k i x ht hx h0 h1 hi=>by
  have hk:k+((I7 x:Nat):Int)=k+1+1+1+1+(Af w_B x.2.2.2.2.1:Nat)+(Af w_B x.2.2.2.2.2.1:Nat)+1+(Af w_B x.2.2.2.2.2.2.2.1:Nat)+(Af w_B x.2.2.2.2.2.2.2.2.1:Nat)+1+1+(Af w_B x.2.2.2.2.2.2.2.2.2.2.2.1:Nat)+(Af w_B x.2.2.2.2.2.2.2.2.2.2.2.2.1:Nat):=by simp only[I7];all_goals omega
  have hw:I7 x=1+1+1+1+Af w_B x.2.2.2.2.1+Af w_B x.2.2.2.2.2.1+1+Af w_B x.2.2.2.2.2.2.2.1+Af w_B x.2.2.2.2.2.2.2.2.1+1+1+Af w_B x.2.2.2.2.2.2.2.2.2.2.2.1+Af w_B x.2.2.2.2.2.2.2.2.2.2.2.2.1:=rfl
  rw[hk]
  unfold Pb
  simp only[Ad,Ae,Aa,Ag,Az,Fv,Bw hi,Ay,Bc ht,Ab,Bbc,B5,Aj]
  simp (maxSteps:=4000000) (disch:=first|omega|(dsimp only;omega)) only[w64,Ab,B5,beq_self_eq_true,Bool.not_true,Aj,Pj,Ar,Ai,Ib,H0,N4,Nk,Ts,Ve,Abm,Akn,Akp,Apd]) (fun k=>by
  unfold Pb
  simp only[Ad,Ae,Aa,Ag,Az,Fv,B7,Aj]) h0 h1
 unfold Abi Ajv
 simp only[Ad,Ae,Aa,Ag,Az]
 rw[e]
 rfl
theorem Bzn (d:Am) (h:Db d<=4294967296):Awc d d=some (true,()):=by
 have hn:Db d=d.2.2.2.1.length+d.2.2.2.2.1.length+d.2.2.2.2.2.2.2.1.length+d.2.2.2.2.2.2.2.2.1.length:=rfl
 unfold Awc Au4
 simp (disch:=first|omega|(simp only[Db,Bs,Bo,Bv,Bi,Aw,Da,Bh,A8,Ap,Bj,G7,A7,A5,Dv];omega)) only[Ad,Ae,Aa,Ag,Az,B5,beq_self_eq_true,Aj,Ab,Bool.not_true,Fw,Fx,Nj,Le,Lf,Rm,Abk,Sc,Vb,Vc,Tt,Xn,Ac2,Ac3,A17,Ae5,Ahh,Al9,Bk9,Buz,Bpt]
theorem Bxj (d:List Am×Unit) (h:d.1.length+Af Db d.1<=4294967296):We d d=some (true,()):=by
 have e:=Zj (B:=Ri) (l:=d.1) (fun i x hx hi=>by
  unfold Ri
  simp only[Ad,Ae,Aa,Ag,Az,Bw hi,Ay,Bc hx,Ab,B5,Aj]
  have hx2:=Gj (f:=Db) hx
  rw[Bzn x (by first|omega|(simp only[Db]at*;omega)),Ab]
  try simp only[Bool.not_true,Aj]
  rw[w64 (by omega)]) (by
  unfold Ri
  simp only[Ad,Ae,Aa,Ag,Az,B7,Aj])
 unfold We Aoj
 simp only[Ad,Ae,Aa,Ag,Az,B5,Aj]
 rw[e]
 rfl
theorem Br4 (d:List Am×Unit) (k:Int) (h0:0<=k) (h1:k+(Af G8 d.1:Nat)<=4611686018427387904):Agl d (k,())=some ((k+(Af G8 d.1:Nat),()),(mkL A16 G8 d.1 k,())):=by
 have hl:=Ew (w:=G8) (fun x=>by simp only[G8];omega) d.1
 have e:=Pw (B:=Mz) A16 G8 (l:=d.1) (fun t k i x ht hx hlen h0 h1 hi=>by
  have hit:i<t.length:=by omega
  have hw:G8 x=1+1+1+Af w_B x.2.2.2.1+Af w_B x.2.2.2.2.1+1+1+Af w_B x.2.2.2.2.2.2.2.1+Af w_B x.2.2.2.2.2.2.2.2.1+1+1+1:=rfl
  have hk:k+((G8 x:Nat):Int)=k+1+1+1+(Af w_B x.2.2.2.1:Nat)+(Af w_B x.2.2.2.2.1:Nat)+1+1+(Af w_B x.2.2.2.2.2.2.2.1:Nat)+(Af w_B x.2.2.2.2.2.2.2.2.1:Nat)+1+1+1:=by simp only[G8];all_goals omega
  rw[hk]
  unfold Mz
  simp (maxSteps:=4000000) only[Ad,Ae,Aa,Ag,Az,Bw hit,Ay,Bc ht,Ab,Int.toNat_natCast]
  simp (maxSteps:=4000000) (disch:=first|omega|(dsimp only;omega)|(simp only[List.length_set];omega)) only[w64,Zg,List.set_set,Ab,Int.toNat_natCast,Ar,Ai,He,Hz,Qp,Py,Tr,Vd,Abl,Awh,Ako,Apc,Bgn]
  rfl) (fun t k hlen=>by
  unfold Mz
  exact(Ad _ _ _).trans ((Ce (by simp[hlen])).trans rfl)) h0 h1
 unfold Agl Af9
 simp only[Ad,Ae,Aa,Ag,Az]
 rw[e]
 rfl
theorem Br5 (d:List Am) (k:Int) (h0:0<=k) (h1:k+(Af G8 d:Nat)<=4611686018427387904):W8 (mkL A16 G8 d k,()) (k,())=some (k+(Af G8 d:Nat),()):=by
 have hl:=Ew (w:=G8) (fun x=>by simp only[G8];omega) d
 have e:=Px (B:=M6) A16 G8 (l:=d) (k:=k) (fun k i x ht hx h0 h1 hi=>by
  have hk:k+((G8 x:Nat):Int)=k+1+1+1+(Af w_B x.2.2.2.1:Nat)+(Af w_B x.2.2.2.2.1:Nat)+1+1+(Af w_B x.2.2.2.2.2.2.2.1:Nat)+(Af w_B x.2.2.2.2.2.2.2.2.1:Nat)+1+1+1:=by simp only[G8];all_goals omega
  have hw:G8 x=1+1+1+Af w_B x.2.2.2.1+Af w_B x.2.2.2.2.1+1+1+Af w_B x.2.2.2.2.2.2.2.1+Af w_B x.2.2.2.2.2.2.2.2.1+1+1+1:=rfl
  rw[hk]
  unfold M6
  simp only[Ad,Ae,Aa,Ag,Az,Fv,Bw hi,Ay,Bc ht,Ab,A16,B5,Aj]
  simp (maxSteps:=4000000) (disch:=first|omega|(dsimp only;omega)) only[w64,Ab,B5,beq_self_eq_true,Bool.not_true,Aj,Pj,Ar,Ai,Ib,H0,N4,Nk,Ts,Ve,Abm,Akn,Akp,Apd,Bgo]) (fun k=>by
  unfold M6
  simp only[Ad,Ae,Aa,Ag,Az,Fv,B7,Aj]) h0 h1
 unfold W8 Agd
 simp only[Ad,Ae,Aa,Ag,Az]
 rw[e]
 rfl
theorem B2v (d:YBs) (h:Hh [.sl 5 [.int .u8]] d):Bi7 d:=by
 simp only[Hh,wfD]at h
 unfold Bi7
 exact ml h.1.1
theorem B2w (d:Av) (h:Hh [.int .i64,.int .i64,.sl 5 [.int .u8],.int .i64] d):Mn d:=by
 simp only[Hh,wfD]at h
 unfold Mn
 exact ml h.2.2.1.1
theorem B2x (d:Al) (h:Hh [.int .i64,.sl 5 [.int .u8],.sl 5 [.int .u8],.int .i64,.sl 5 [.int .u8],.int .i64,.sl 5 [.int .u8],.int .i64,.int .i64,.sl 3 [.int .i64],.int .i64,.sl 5 [.int .u8],.int .i64,.int .i64,.sl 3 [.int .i64],.bool,.int .i64,.sl 5 [.int .u8],.int .i64,.int .i64,.sl 319 [.int .i64,.int .i64,.sl 5 [.int .u8],.int .i64],.int .i64,.int .i64,.bool] d):Sb d:=by
 simp only[Hh,wfD]at h
 unfold Sb
 exact⟨ml h.2.1.1,ml h.2.2.1.1,ml h.2.2.2.2.1.1,ml h.2.2.2.2.2.2.1.1,ml h.2.2.2.2.2.2.2.2.2.1.1,ml h.2.2.2.2.2.2.2.2.2.2.2.1.1,ml h.2.2.2.2.2.2.2.2.2.2.2.2.2.2.1.1,ml h.2.2.2.2.2.2.2.2.2.2.2.2.2.2.2.2.2.1.1,ml h.2.2.2.2.2.2.2.2.2.2.2.2.2.2.2.2.2.2.2.2.1.1,fun i x hx=>B2w x (h.2.2.2.2.2.2.2.2.2.2.2.2.2.2.2.2.2.2.2.2.1.2 i x hx)⟩
theorem B2y (d:A0) (h:Hh [.sl 22 [.sl 5 [.int .u8]],.sl 5 [.int .u8],.sl 5 [.int .u8],.int .i64,.int .i64,.sl 264 [.int .i64,.sl 5 [.int .u8],.sl 5 [.int .u8],.int .i64,.sl 5 [.int .u8],.int .i64,.sl 5 [.int .u8],.int .i64,.int .i64,.sl 3 [.int .i64],.int .i64,.sl 5 [.int .u8],.int .i64,.int .i64,.sl 3 [.int .i64],.bool,.int .i64,.sl 5 [.int .u8],.int .i64,.int .i64,.sl 319 [.int .i64,.int .i64,.sl 5 [.int .u8],.int .i64],.int .i64,.int .i64,.bool],.sl 213 [.int .i64,.int .i64,.int .i64,.int .i64]] d):Zi d:=by
 simp only[Hh,wfD]at h
 unfold Zi
 exact⟨ml h.1.1,fun i x hx=>B2v x (h.1.2 i x hx),ml h.2.1.1,ml h.2.2.1.1,ml h.2.2.2.2.2.1.1,fun i x hx=>B2x x (h.2.2.2.2.2.1.2 i x hx),ml h.2.2.2.2.2.2.1.1⟩
theorem zq0 {p:Prop} (h:p:=by omega):p:=h
theorem zq1 {p:Prop} (h:p:=by simp;omega):p:=h
theorem zq2 {p:Prop} (h:p:=by dsimp only;omega):p:=h
theorem zq3 {p:Prop} (h:p:=by simp):p:=h
theorem zq4 {p:Prop} (h:p:=by simp[Fe];omega):p:=h
theorem zq5 {p:Prop} (h:p:=by simp[cat];omega):p:=h
theorem zq6 {p:Prop} (h:p:=by simp[cat,Fe];omega):p:=h
theorem zq7 {p:Prop} (h:p:=by decide):p:=h
theorem zq8 {p:Prop} (h:p:=by simp[inR];omega):p:=h
theorem zq9 {p:Prop} (h:p:=by simp[Awi];omega):p:=h
theorem Bd6 {p:Prop} (h:p:=by dsimp only[Oc];omega):p:=h
theorem Bd7 {p:Prop} (h:p:=by dsimp only[Abn];omega):p:=h
theorem Abo {p:Prop} (h:p:=by simp<;>omega):p:=h
end
end Go.Proofs.YthccfdmiejmbaaaGreat

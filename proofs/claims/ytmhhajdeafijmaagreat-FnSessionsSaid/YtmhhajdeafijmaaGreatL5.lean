/-
  That the program and the reference answer alike, in plain terms, and that the laws answer true.
-/
import Derived.Test.YtmhhajdeafijmaaGreatL4
namespace Go.Proofs.YtmhhajdeafijmaaGreat
open Go.RowKit
set_option linter.unusedVariables false
set_option linter.unusedSimpArgs false
set_option maxHeartbeats 4000000
noncomputable section
theorem Fe {E:Type} {l:List E} {i:Nat} {x:E} (h:l[i]? =some x):l.take i++[x]=l.take (i+1):=by
 rw[List.take_add_one,h];rfl
theorem Cw (b:YBs) (h:b.1.length≤4294967296):Br b=some b:=by
 unfold Br Ain
 simp only[Ak,Ac,List.length_nil,Nat.zero_add,List.nil_append]
 rw[Am h];rfl
def byt (n:Int) (j:Nat):YB:=(IntKind.u8.wrap (IntKind.i64.wrap ((BitVec.ofInt (IntKind.i64.bits) (Int.fdiv n (2^(min (8*j) IntKind.i64.bits))) &&& BitVec.ofInt (IntKind.i64.bits) (255:Int)).toNat:Nat)),())
def Fw (n:Int) (k i:Nat):List YB:=(List.range i).map fun j=>byt n (k-1-j)
theorem G6 (n:Int) (k i:Nat):(Fw n k i).length=i:=by simp[Fw]
theorem A8t:H2=F5:=rfl
theorem Aw4 (b:List YB) (n:Int) (k:Nat) (h1:1≤k) (h6:k≤6) (hl:b.length≤1073741824):F5 (b,()) (n,()) ((k:Int),())=some (b++Fw n k k,()):=by
 have hr:=Cp (B:=Qc) k (fun i=>(n,b++Fw n k i,(k:Int)-1-(i:Int),())) (b++Fw n k k,())
  (fun i hi=>by
   unfold Qc
   simp only[Ae,Ak,Ac]
   have e:(8:Int)*((k:Int)-1-(i:Int))=((8*(k-1-i):Nat):Int):=by omega
   rw[Am zq0,A0,w64 (n:=8*((k:Int)-1-(i:Int))) zq0,Am zq0,Ba,Am (by simp[G6];omega),Ba,w64 (n:=(k:Int)-1-(i:Int)-1) zq0,e,Int.toNat_natCast]
   have e2:(b++Fw n k i)++[byt n (k-1-i)]=b++Fw n k (i+1):=by
    unfold Fw;rw[List.range_succ,List.map_append,List.append_assoc];rfl
   rw[←e2,show(k:Int)-1-((i+1:Nat):Int)=(k:Int)-1-(i:Int)-1 by omega]
   rfl)
  (by unfold Qc;simp only[Ae,Ac,Ak];rw[Bj zq0,An])
 unfold F5 Amx
 simp only[Ae,Ak,Ai,Ac,List.nil_append,List.length_nil,Nat.zero_add]
 rw[Am zq0,Ba,Bj zq0,An,Bj zq0,An,w64 zq0]
 have e0:(n,b,(k:Int)-1,())=(n,b++Fw n k 0,(k:Int)-1-((0:Nat):Int),()):=by simp[Fw]
 rw[e0,hr]
 rfl
theorem A4z (b:List YB) (n:Int) (k:Nat) (h1:1≤k) (h6:k≤6) (hl:b.length≤1073741824):H2 (b,()) (n,()) ((k:Int),())=some (b++Fw n k k,()):=by
 rw[A8t];exact Aw4 b n k h1 h6 hl
theorem Ss (b:List YB) (n:Int) (hl:b.length≤1073741824):F5 (b,()) (n,()) ((4:Int),())=some (b++Fw n 4 4,()):=Aw4 b n 4 zq0 zq0 hl
theorem A8u (b:List YB) (n:Int) (hl:b.length≤1073741824):F5 (b,()) (n,()) ((6:Int),())=some (b++Fw n 6 6,()):=Aw4 b n 6 zq0 zq0 hl
theorem Ac2 (b:List YB) (n:Int) (hl:b.length≤1073741824):H2 (b,()) (n,()) ((4:Int),())=some (b++Fw n 4 4,()):=A4z b n 4 zq0 zq0 hl
theorem A09 (b:List YB) (n:Int) (hl:b.length≤1073741824):H2 (b,()) (n,()) ((6:Int),())=some (b++Fw n 6 6,()):=A4z b n 6 zq0 zq0 hl
def cat:List YBs→List YB
 |[]=>[]
 |x::r=>x.1++cat r
theorem Aw5 (l:List YBs) (x:YBs):cat (l++[x])=cat l++x.1:=by
 induction l with
 |nil=>simp[cat]
 |cons y r ih=>simp[cat,ih]
theorem Az4 (l:List YBs) (i:Nat):(cat (l.take i)).length≤(cat l).length:=by
 induction l generalizing i with
 |nil=>simp
 |cons y r ih=>cases i with
  |zero=>simp[cat]
  |succ i=>simp[cat];exact ih i
theorem Ks (l:List YBs) (h:(cat l).length≤4294967296) (h2:l.length≤4294967296):Fp (l,())=some (cat l,()):=by
 have hr:=Cp (B:=Jr) l.length (fun i=>(cat (l.take i),l,(l.length:Int),(i:Int),())) (cat l,())
  (fun i hi=>by
   have hx:=List.getElem?_eq_getElem hi
   have h3:=Az4 l (i+1)
   rw[←Fe hx,Aw5]at h3
   simp only[List.length_append]at h3
   unfold Jr
   simp only[Ae,Ai,Ac,Ak,Et hi,A0,Cb hx,Ag]
   rw[Am zq0,Ba,w64 zq0,←Aw5,Fe hx]
   rfl)
  (by unfold Jr;simp only[Ae,Ac,Eu,An,List.take_length])
 unfold Fp Aeq
 simp only[Ai,Ac]
 rw[show Ay Jr ([],l,(l.length:Int),(0:Int),())=some (cat l,())from hr]
 rfl
end
end Go.Proofs.YtmhhajdeafijmaaGreat

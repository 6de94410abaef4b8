/-
  That the program and the reference answer alike, in plain terms, and that the laws answer true.
-/
import Derived.Test.YtmhhajdeafijmaaGreatL4
namespace Go.Proofs.YtmhhajdeafijmaaGreat
open Go.RowKit
set_option linter.unusedVariables false
set_option linter.unusedSimpArgs false
set_option maxHeartbeats 4000000
noncomputable section
theorem G8 {E:Type} {l:List E} {i:Nat} {x:E} (h:l[i]? =some x):l.take i++[x]=l.take (i+1):=by
 rw[List.take_add_one,h];rfl
theorem Cd (b:YBs) (h:b.1.length≤4294967296):A1 b=some b:=by
 unfold A1 Akw
 simp only[Ao,Ad,List.length_nil,Nat.zero_add,List.nil_append]
 rw[Am h];rfl
def byt (n:Int) (j:Nat):YB:=(IntKind.u8.wrap (IntKind.i64.wrap ((BitVec.ofInt (IntKind.i64.bits) (Int.fdiv n (2^(min (8*j) IntKind.i64.bits))) &&& BitVec.ofInt (IntKind.i64.bits) (255:Int)).toNat:Nat)),())
def E5 (n:Int) (k i:Nat):List YB:=(List.range i).map fun j=>byt n (k-1-j)
theorem Gn (n:Int) (k i:Nat):(E5 n k i).length=i:=by simp[E5]
theorem Bah:Ho=Fx:=rfl
theorem Ay0 (b:List YB) (n:Int) (k:Nat) (h1:1≤k) (h6:k≤6) (hl:b.length≤1073741824):Fx (b,()) (n,()) ((k:Int),())=some (b++E5 n k k,()):=by
 have hr:=Cq (B:=Ov) k (fun i=>(n,b++E5 n k i,(k:Int)-1-(i:Int),())) (b++E5 n k k,())
  (fun i hi=>by
   unfold Ov
   simp only[Ag,Ao,Ad]
   have e:(8:Int)*((k:Int)-1-(i:Int))=((8*(k-1-i):Nat):Int):=by omega
   rw[Am zq0,Aw,w64 (n:=8*((k:Int)-1-(i:Int))) zq0,Am zq0,A5,Am (by simp[Gn];omega),A5,w64 (n:=(k:Int)-1-(i:Int)-1) zq0,e,Int.toNat_natCast]
   have e2:(b++E5 n k i)++[byt n (k-1-i)]=b++E5 n k (i+1):=by
    unfold E5;rw[List.range_succ,List.map_append,List.append_assoc];rfl
   rw[←e2,show(k:Int)-1-((i+1:Nat):Int)=(k:Int)-1-(i:Int)-1 by omega]
   rfl)
  (by unfold Ov;simp only[Ag,Ad,Ao];rw[A8 zq0,An])
 unfold Fx Ape
 simp only[Ag,Ao,Ai,Ad,List.nil_append,List.length_nil,Nat.zero_add]
 rw[Am zq0,A5,A8 zq0,An,A8 zq0,An,w64 zq0]
 have e0:(n,b,(k:Int)-1,())=(n,b++E5 n k 0,(k:Int)-1-((0:Nat):Int),()):=by simp[E5]
 rw[e0,hr]
 rfl
theorem A6k (b:List YB) (n:Int) (k:Nat) (h1:1≤k) (h6:k≤6) (hl:b.length≤1073741824):Ho (b,()) (n,()) ((k:Int),())=some (b++E5 n k k,()):=by
 rw[Bah];exact Ay0 b n k h1 h6 hl
theorem Rc (b:List YB) (n:Int) (hl:b.length≤1073741824):Fx (b,()) (n,()) ((4:Int),())=some (b++E5 n 4 4,()):=Ay0 b n 4 zq0 zq0 hl
theorem Bai (b:List YB) (n:Int) (hl:b.length≤1073741824):Fx (b,()) (n,()) ((6:Int),())=some (b++E5 n 6 6,()):=Ay0 b n 6 zq0 zq0 hl
theorem Afe (b:List YB) (n:Int) (hl:b.length≤1073741824):Ho (b,()) (n,()) ((4:Int),())=some (b++E5 n 4 4,()):=A6k b n 4 zq0 zq0 hl
theorem A2x (b:List YB) (n:Int) (hl:b.length≤1073741824):Ho (b,()) (n,()) ((6:Int),())=some (b++E5 n 6 6,()):=A6k b n 6 zq0 zq0 hl
def cat:List YBs→List YB
 |[]=>[]
 |x::r=>x.1++cat r
theorem Ay1 (l:List YBs) (x:YBs):cat (l++[x])=cat l++x.1:=by
 induction l with
 |nil=>simp[cat]
 |cons y r ih=>simp[cat,ih]
theorem A1u (l:List YBs) (i:Nat):(cat (l.take i)).length≤(cat l).length:=by
 induction l generalizing i with
 |nil=>simp
 |cons y r ih=>cases i with
  |zero=>simp[cat]
  |succ i=>simp[cat];exact ih i
theorem Is (l:List YBs) (h:(cat l).length≤4294967296) (h2:l.length≤4294967296):Et (l,())=some (cat l,()):=by
 have hr:=Cq (B:=I5) l.length (fun i=>(cat (l.take i),l,(l.length:Int),(i:Int),())) (cat l,())
  (fun i hi=>by
   have hx:=List.getElem?_eq_getElem hi
   have h3:=A1u l (i+1)
   rw[←G8 hx,Ay1]at h3
   simp only[List.length_append]at h3
   unfold I5
   simp only[Ag,Ai,Ad,Ao,M6 hi,Aw,Dl hx,Aj]
   rw[Am zq0,A5,w64 zq0,←Ay1,G8 hx]
   rfl)
  (by unfold I5;simp only[Ag,Ad,M7,An,List.take_length])
 unfold Et Ag7
 simp only[Ai,Ad]
 rw[show Ay I5 ([],l,(l.length:Int),(0:Int),())=some (cat l,())from hr]
 rfl
end
end Go.Proofs.YtmhhajdeafijmaaGreat

/-
  That the program and the reference answer alike, in plain terms, and that the laws answer true.
-/
import Derived.Test.YtjlblagmjlmglaaGreatL4
namespace Go.Proofs.YtjlblagmjlmglaaGreat
open Go.RowKit
set_option linter.unusedVariables false
set_option linter.unusedSimpArgs false
set_option maxHeartbeats 4000000
noncomputable section
theorem Gs {E:Type} {l:List E} {i:Nat} {x:E} (h:l[i]? =some x):l.take i++[x]=l.take (i+1):=by
 rw[List.take_add_one,h];rfl
theorem Cg (b:YBs) (h:b.1.length≤4294967296):A1 b=some b:=by
 unfold A1 Akl
 simp only[Ap,Ad,List.length_nil,Nat.zero_add,List.nil_append]
 rw[Ao h];rfl
def byt (n:Int) (j:Nat):YB:=(IntKind.u8.wrap (IntKind.i64.wrap ((BitVec.ofInt (IntKind.i64.bits) (Int.fdiv n (2^(min (8*j) IntKind.i64.bits))) &&& BitVec.ofInt (IntKind.i64.bits) (255:Int)).toNat:Nat)),())
def Fg (n:Int) (k i:Nat):List YB:=(List.range i).map fun j=>byt n (k-1-j)
theorem Gf (n:Int) (k i:Nat):(Fg n k i).length=i:=by simp[Fg]
theorem Ba1:Hc=Fo:=rfl
theorem Ay8 (b:List YB) (n:Int) (k:Nat) (h1:1≤k) (h6:k≤6) (hl:b.length≤1073741824):Fo (b,()) (n,()) ((k:Int),())=some (b++Fg n k k,()):=by
 have hr:=C5 (B:=Oa) k (fun i=>(n,b++Fg n k i,(k:Int)-1-(i:Int),())) (b++Fg n k k,())
  (fun i hi=>by
   unfold Oa
   simp only[Ai,Ap,Ad]
   have e:(8:Int)*((k:Int)-1-(i:Int))=((8*(k-1-i):Nat):Int):=by omega
   rw[Ao zq0,Ax,w64 (n:=8*((k:Int)-1-(i:Int))) zq0,Ao zq0,A8,Ao (by simp[Gf];omega),A8,w64 (n:=(k:Int)-1-(i:Int)-1) zq0,e,Int.toNat_natCast]
   have e2:(b++Fg n k i)++[byt n (k-1-i)]=b++Fg n k (i+1):=by
    unfold Fg;rw[List.range_succ,List.map_append,List.append_assoc];rfl
   rw[←e2,show(k:Int)-1-((i+1:Nat):Int)=(k:Int)-1-(i:Int)-1 by omega]
   rfl)
  (by unfold Oa;simp only[Ai,Ad,Ap];rw[Bb zq0,Aq])
 unfold Fo Ao4
 simp only[Ai,Ap,Aj,Ad,List.nil_append,List.length_nil,Nat.zero_add]
 rw[Ao zq0,A8,Bb zq0,Aq,Bb zq0,Aq,w64 zq0]
 have e0:(n,b,(k:Int)-1,())=(n,b++Fg n k 0,(k:Int)-1-((0:Nat):Int),()):=by simp[Fg]
 rw[e0,hr]
 rfl
theorem A63 (b:List YB) (n:Int) (k:Nat) (h1:1≤k) (h6:k≤6) (hl:b.length≤1073741824):Hc (b,()) (n,()) ((k:Int),())=some (b++Fg n k k,()):=by
 rw[Ba1];exact Ay8 b n k h1 h6 hl
theorem Qq (b:List YB) (n:Int) (hl:b.length≤1073741824):Fo (b,()) (n,()) ((4:Int),())=some (b++Fg n 4 4,()):=Ay8 b n 4 zq0 zq0 hl
theorem Ba2 (b:List YB) (n:Int) (hl:b.length≤1073741824):Fo (b,()) (n,()) ((6:Int),())=some (b++Fg n 6 6,()):=Ay8 b n 6 zq0 zq0 hl
theorem Amu (b:List YB) (n:Int) (hl:b.length≤1073741824):Hc (b,()) (n,()) ((4:Int),())=some (b++Fg n 4 4,()):=A63 b n 4 zq0 zq0 hl
theorem A24 (b:List YB) (n:Int) (hl:b.length≤1073741824):Hc (b,()) (n,()) ((6:Int),())=some (b++Fg n 6 6,()):=A63 b n 6 zq0 zq0 hl
def cat:List YBs→List YB
 |[]=>[]
 |x::r=>x.1++cat r
theorem Ay9 (l:List YBs) (x:YBs):cat (l++[x])=cat l++x.1:=by
 induction l with
 |nil=>simp[cat]
 |cons y r ih=>simp[cat,ih]
theorem A13 (l:List YBs) (i:Nat):(cat (l.take i)).length≤(cat l).length:=by
 induction l generalizing i with
 |nil=>simp
 |cons y r ih=>cases i with
  |zero=>simp[cat]
  |succ i=>simp[cat];exact ih i
theorem Ie (l:List YBs) (h:(cat l).length≤4294967296) (h2:l.length≤4294967296):Em (l,())=some (cat l,()):=by
 have hr:=C5 (B:=Is) l.length (fun i=>(cat (l.take i),l,(l.length:Int),(i:Int),())) (cat l,())
  (fun i hi=>by
   have hx:=List.getElem?_eq_getElem hi
   have h3:=A13 l (i+1)
   rw[←Gs hx,Ay9]at h3
   simp only[List.length_append]at h3
   unfold Is
   simp only[Ai,Aj,Ad,Ap,Zw hi,Ax,Dz hx,Al]
   rw[Ao zq0,A8,w64 zq0,←Ay9,Gs hx]
   rfl)
  (by unfold Is;simp only[Ai,Ad,Zx,Aq,List.take_length])
 unfold Em Agr
 simp only[Aj,Ad]
 rw[show Az Is ([],l,(l.length:Int),(0:Int),())=some (cat l,())from hr]
 rfl
end
end Go.Proofs.YtjlblagmjlmglaaGreat

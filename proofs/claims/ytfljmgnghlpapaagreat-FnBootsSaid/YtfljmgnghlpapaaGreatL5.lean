/-
  That the program and the reference answer alike, in plain terms, and that the laws answer true.
-/
import Derived.Test.YtfljmgnghlpapaaGreatL4
namespace Go.Proofs.YtfljmgnghlpapaaGreat
open Go.RowKit
set_option linter.unusedVariables false
set_option linter.unusedSimpArgs false
set_option maxHeartbeats 4000000
noncomputable section
theorem Dg {E:Type} {l:List E} {i:Nat} {x:E} (h:l[i]? =some x):l.take i++[x]=l.take (i+1):=by
 rw[List.take_add_one,h];rfl
theorem Dv (b:YBs) (h:b.1.length≤4294967296):Br b=some b:=by
 unfold Br Alb
 simp only[Al,Ab,List.length_nil,Nat.zero_add,List.nil_append]
 rw[An h];rfl
def byt (n:Int) (j:Nat):YB:=(IntKind.u8.wrap (IntKind.i64.wrap ((BitVec.ofInt (IntKind.i64.bits) (Int.fdiv n (2^(min (8*j) IntKind.i64.bits))) &&& BitVec.ofInt (IntKind.i64.bits) (255:Int)).toNat:Nat)),())
def Eu (n:Int) (k i:Nat):List YB:=(List.range i).map fun j=>byt n (k-1-j)
theorem E7 (n:Int) (k i:Nat):(Eu n k i).length=i:=by simp[Eu]
theorem Be8:Fj=F4:=rfl
theorem A16 (b:List YB) (n:Int) (k:Nat) (h1:1≤k) (h6:k≤6) (hl:b.length≤1073741824):F4 (b,()) (n,()) ((k:Int),())=some (b++Eu n k k,()):=by
 have hr:=B8 (B:=Pm) k (fun i=>(n,b++Eu n k i,(k:Int)-1-(i:Int),())) (b++Eu n k k,())
  (fun i hi=>by
   unfold Pm
   simp only[Ac,Al,Ab]
   have e:(8:Int)*((k:Int)-1-(i:Int))=((8*(k-1-i):Nat):Int):=by omega
   rw[An zq0,A4,w64 (n:=8*((k:Int)-1-(i:Int))) zq0,An zq0,A8,An (by simp[E7];omega),A8,w64 (n:=(k:Int)-1-(i:Int)-1) zq0,e,Int.toNat_natCast]
   have e2:(b++Eu n k i)++[byt n (k-1-i)]=b++Eu n k (i+1):=by
    unfold Eu;rw[List.range_succ,List.map_append,List.append_assoc];rfl
   rw[←e2,show(k:Int)-1-((i+1:Nat):Int)=(k:Int)-1-(i:Int)-1 by omega]
   rfl)
  (by unfold Pm;simp only[Ac,Ab,Al];rw[Bj zq0,Au])
 unfold F4 Ap7
 simp only[Ac,Al,Ae,Ab,List.nil_append,List.length_nil,Nat.zero_add]
 rw[An zq0,A8,Bj zq0,Au,Bj zq0,Au,w64 zq0]
 have e0:(n,b,(k:Int)-1,())=(n,b++Eu n k 0,(k:Int)-1-((0:Nat):Int),()):=by simp[Eu]
 rw[e0,hr]
 rfl
theorem A17 (b:List YB) (n:Int) (k:Nat) (h1:1≤k) (h6:k≤6) (hl:b.length≤1073741824):Fj (b,()) (n,()) ((k:Int),())=some (b++Eu n k k,()):=by
 rw[Be8];exact A16 b n k h1 h6 hl
theorem Rw (b:List YB) (n:Int) (hl:b.length≤1073741824):F4 (b,()) (n,()) ((4:Int),())=some (b++Eu n 4 4,()):=A16 b n 4 zq0 zq0 hl
theorem Anz (b:List YB) (n:Int) (hl:b.length≤1073741824):Fj (b,()) (n,()) ((4:Int),())=some (b++Eu n 4 4,()):=A17 b n 4 zq0 zq0 hl
theorem Be9 (b:List YB) (n:Int) (hl:b.length≤1073741824):Fj (b,()) (n,()) ((6:Int),())=some (b++Eu n 6 6,()):=A17 b n 6 zq0 zq0 hl
def cat:List YBs→List YB
 |[]=>[]
 |x::r=>x.1++cat r
theorem A18 (l:List YBs) (x:YBs):cat (l++[x])=cat l++x.1:=by
 induction l with
 |nil=>simp[cat]
 |cons y r ih=>simp[cat,ih]
theorem A5i (l:List YBs) (i:Nat):(cat (l.take i)).length≤(cat l).length:=by
 induction l generalizing i with
 |nil=>simp
 |cons y r ih=>cases i with
  |zero=>simp[cat]
  |succ i=>simp[cat];exact ih i
theorem Rx (l:List YBs) (h:(cat l).length≤4294967296) (h2:l.length≤4294967296):Fk (l,())=some (cat l,()):=by
 have hr:=B8 (B:=Jh) l.length (fun i=>(cat (l.take i),l,(l.length:Int),(i:Int),())) (cat l,())
  (fun i hi=>by
   have hx:=List.getElem?_eq_getElem hi
   have h3:=A5i l (i+1)
   rw[←Dg hx,A18]at h3
   simp only[List.length_append]at h3
   unfold Jh
   simp only[Ac,Ae,Ab,Al,By hi,A4,Bk hx,Ai]
   rw[An zq0,A8,w64 zq0,←A18,Dg hx]
   rfl)
  (by unfold Jh;simp only[Ac,Ab,Bz,Au,List.take_length])
 unfold Fk Agp
 simp only[Ae,Ab]
 rw[show As Jh ([],l,(l.length:Int),(0:Int),())=some (cat l,())from hr]
 rfl
end
end Go.Proofs.YtfljmgnghlpapaaGreat

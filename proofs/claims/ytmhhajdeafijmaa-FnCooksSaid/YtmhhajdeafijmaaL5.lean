/-
  That the program and the reference answer alike, in plain terms, and that the laws answer true.
-/
import Derived.Test.YtmhhajdeafijmaaL2
namespace Go.Proofs.Ytmhhajdeafijmaa
open Go.RowKit
set_option linter.unusedVariables false
set_option linter.unusedSimpArgs false
set_option maxHeartbeats 4000000
noncomputable section
theorem Fd {E:Type} {l:List E} {i:Nat} {x:E} (h:l[i]? =some x):l.take i++[x]=l.take (i+1):=by
 rw[List.take_add_one,h];rfl
theorem G6 (b:YBs) (h:b.1.length≤4294967296):Dy b=some b:=by
 unfold Dy Q5
 simp only[Ah,Ac,List.length_nil,Nat.zero_add,List.nil_append]
 rw[Af h];rfl
def byt (n:Int) (j:Nat):YB:=(IntKind.u8.wrap (IntKind.i64.wrap ((BitVec.ofInt (IntKind.i64.bits) (Int.fdiv n (2^(min (8*j) IntKind.i64.bits))) &&& BitVec.ofInt (IntKind.i64.bits) (255:Int)).toNat:Nat)),())
def C7 (n:Int) (k i:Nat):List YB:=(List.range i).map fun j=>byt n (k-1-j)
theorem Ji (n:Int) (k i:Nat):(C7 n k i).length=i:=by simp[C7]
theorem Aj6:Hw=Da:=rfl
theorem Abt (b:List YB) (n:Int) (k:Nat) (h1:1≤k) (h6:k≤6) (hl:b.length≤1073741824):Da (b,()) (n,()) ((k:Int),())=some (b++C7 n k k,()):=by
 have hr:=B9 (B:=Ik) k (fun i=>(n,b++C7 n k i,(k:Int)-1-(i:Int),())) (b++C7 n k k,())
  (fun i hi=>by
   unfold Ik
   simp only[Ad,Ah,Ac]
   have e:(8:Int)*((k:Int)-1-(i:Int))=((8*(k-1-i):Nat):Int):=by omega
   rw[Af zq0,Ap,w64 (n:=8*((k:Int)-1-(i:Int))) zq0,Af zq0,Ar,Af zq1,Ar,w64 (n:=(k:Int)-1-(i:Int)-1) zq0,e,Int.toNat_natCast]
   have e2:(b++C7 n k i)++[byt n (k-1-i)]=b++C7 n k (i+1):=by
    unfold C7;rw[List.range_succ,List.map_append,List.append_assoc];rfl
   rw[←e2,show(k:Int)-1-((i+1:Nat):Int)=(k:Int)-1-(i:Int)-1 by omega]
   rfl)
  (by unfold Ik;simp only[Ad,Ac,Ah];rw[Au zq0,Aj])
 unfold Da T6
 simp only[Ad,Ah,Ae,Ac,List.nil_append,List.length_nil,Nat.zero_add]
 rw[Af zq0,Ar,Au zq0,Aj,Au zq0,Aj,w64 zq0]
 have e0:(n,b,(k:Int)-1,())=(n,b++C7 n k 0,(k:Int)-1-((0:Nat):Int),()):=by simp[C7]
 rw[e0,hr]
 rfl
theorem Ahe (b:List YB) (n:Int) (k:Nat) (h1:1≤k) (h6:k≤6) (hl:b.length≤1073741824):Hw (b,()) (n,()) ((k:Int),())=some (b++C7 n k k,()):=by
 rw[Aj6];exact Abt b n k h1 h6 hl
theorem Jj (b:List YB) (n:Int) (hl:b.length≤1073741824):Da (b,()) (n,()) ((4:Int),())=some (b++C7 n 4 4,()):=Abt b n 4 zq0 zq0 hl
theorem Aj7 (b:List YB) (n:Int) (hl:b.length≤1073741824):Da (b,()) (n,()) ((6:Int),())=some (b++C7 n 6 6,()):=Abt b n 6 zq0 zq0 hl
theorem Aes (b:List YB) (n:Int) (hl:b.length≤1073741824):Hw (b,()) (n,()) ((4:Int),())=some (b++C7 n 4 4,()):=Ahe b n 4 zq0 zq0 hl
theorem Aj8 (b:List YB) (n:Int) (hl:b.length≤1073741824):Hw (b,()) (n,()) ((6:Int),())=some (b++C7 n 6 6,()):=Ahe b n 6 zq0 zq0 hl
def cat:List YBs→List YB
 |[]=>[]
 |x::r=>x.1++cat r
theorem Abu (l:List YBs) (x:YBs):cat (l++[x])=cat l++x.1:=by
 induction l with
 |nil=>simp[cat]
 |cons y r ih=>simp[cat,ih]
theorem Ad0 (l:List YBs) (i:Nat):(cat (l.take i)).length≤(cat l).length:=by
 induction l generalizing i with
 |nil=>simp
 |cons y r ih=>cases i with
  |zero=>simp[cat]
  |succ i=>simp[cat];exact ih i
theorem Hz (l:List YBs) (h:(cat l).length≤4294967296) (h2:l.length≤4294967296):Dt (l,())=some (cat l,()):=by
 have hr:=B9 (B:=Eu) l.length (fun i=>(cat (l.take i),l,(l.length:Int),(i:Int),())) (cat l,())
  (fun i hi=>by
   have hx:=List.getElem?_eq_getElem hi
   have h3:=Ad0 l (i+1)
   rw[←Fd hx,Abu]at h3
   simp only[List.length_append]at h3
   unfold Eu
   simp only[Ad,Ae,Ac,Ah,Hi hi,Ap,Bb hx,Ag]
   rw[Af zq0,Ar,w64 zq0,←Abu,Fd hx]
   rfl)
  (by unfold Eu;simp only[Ad,Ac,Gp,Aj,List.take_length])
 unfold Dt O4
 simp only[Ae,Ac]
 rw[show Am Eu ([],l,(l.length:Int),(0:Int),())=some (cat l,())from hr]
 rfl
end
end Go.Proofs.Ytmhhajdeafijmaa

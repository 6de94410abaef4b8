/-
  That the program and the reference answer alike, in plain terms, and that the laws answer true.
-/
import Derived.Test.YtmhhajdeafijmaaGreatL4
namespace Go.Proofs.YtmhhajdeafijmaaGreat
open Go.RowKit
set_option linter.unusedVariables false
set_option linter.unusedSimpArgs false
set_option maxHeartbeats 4000000
noncomputable section
theorem Fd {E:Type} {l:List E} {i:Nat} {x:E} (h:l[i]? =some x):l.take i++[x]=l.take (i+1):=by
 rw[List.take_add_one,h];rfl
theorem Cu (b:YBs) (h:b.1.length≤4294967296):Bu b=some b:=by
 unfold Bu Ag4
 simp only[Aj,Ac,List.length_nil,Nat.zero_add,List.nil_append]
 rw[Ak h];rfl
def byt (n:Int) (j:Nat):YB:=(IntKind.u8.wrap (IntKind.i64.wrap ((BitVec.ofInt (IntKind.i64.bits) (Int.fdiv n (2^(min (8*j) IntKind.i64.bits))) &&& BitVec.ofInt (IntKind.i64.bits) (255:Int)).toNat:Nat)),())
def Ft (n:Int) (k i:Nat):List YB:=(List.range i).map fun j=>byt n (k-1-j)
theorem Gz (n:Int) (k i:Nat):(Ft n k i).length=i:=by simp[Ft]
theorem A6n:I2=Fy:=rfl
theorem Au0 (b:List YB) (n:Int) (k:Nat) (h1:1≤k) (h6:k≤6) (hl:b.length≤1073741824):Fy (b,()) (n,()) ((k:Int),())=some (b++Ft n k k,()):=by
 have hr:=Cn (B:=Pj) k (fun i=>(n,b++Ft n k i,(k:Int)-1-(i:Int),())) (b++Ft n k k,())
  (fun i hi=>by
   unfold Pj
   simp only[Ae,Aj,Ac]
   have e:(8:Int)*((k:Int)-1-(i:Int))=((8*(k-1-i):Nat):Int):=by omega
   rw[Ak zq0,A0,w64 (n:=8*((k:Int)-1-(i:Int))) zq0,Ak zq0,A8,Ak (by simp[Gz];omega),A8,w64 (n:=(k:Int)-1-(i:Int)-1) zq0,e,Int.toNat_natCast]
   have e2:(b++Ft n k i)++[byt n (k-1-i)]=b++Ft n k (i+1):=by
    unfold Ft;rw[List.range_succ,List.map_append,List.append_assoc];rfl
   rw[←e2,show(k:Int)-1-((i+1:Nat):Int)=(k:Int)-1-(i:Int)-1 by omega]
   rfl)
  (by unfold Pj;simp only[Ae,Ac,Aj];rw[Bh zq0,Am])
 unfold Fy Ald
 simp only[Ae,Aj,Ai,Ac,List.nil_append,List.length_nil,Nat.zero_add]
 rw[Ak zq0,A8,Bh zq0,Am,Bh zq0,Am,w64 zq0]
 have e0:(n,b,(k:Int)-1,())=(n,b++Ft n k 0,(k:Int)-1-((0:Nat):Int),()):=by simp[Ft]
 rw[e0,hr]
 rfl
theorem A2t (b:List YB) (n:Int) (k:Nat) (h1:1≤k) (h6:k≤6) (hl:b.length≤1073741824):I2 (b,()) (n,()) ((k:Int),())=some (b++Ft n k k,()):=by
 rw[A6n];exact Au0 b n k h1 h6 hl
theorem Rv (b:List YB) (n:Int) (hl:b.length≤1073741824):Fy (b,()) (n,()) ((4:Int),())=some (b++Ft n 4 4,()):=Au0 b n 4 zq0 zq0 hl
theorem A6o (b:List YB) (n:Int) (hl:b.length≤1073741824):Fy (b,()) (n,()) ((6:Int),())=some (b++Ft n 6 6,()):=Au0 b n 6 zq0 zq0 hl
theorem Ab4 (b:List YB) (n:Int) (hl:b.length≤1073741824):I2 (b,()) (n,()) ((4:Int),())=some (b++Ft n 4 4,()):=A2t b n 4 zq0 zq0 hl
theorem Ay4 (b:List YB) (n:Int) (hl:b.length≤1073741824):I2 (b,()) (n,()) ((6:Int),())=some (b++Ft n 6 6,()):=A2t b n 6 zq0 zq0 hl
def cat:List YBs→List YB
 |[]=>[]
 |x::r=>x.1++cat r
theorem Au1 (l:List YBs) (x:YBs):cat (l++[x])=cat l++x.1:=by
 induction l with
 |nil=>simp[cat]
 |cons y r ih=>simp[cat,ih]
theorem Ax0 (l:List YBs) (i:Nat):(cat (l.take i)).length≤(cat l).length:=by
 induction l generalizing i with
 |nil=>simp
 |cons y r ih=>cases i with
  |zero=>simp[cat]
  |succ i=>simp[cat];exact ih i
theorem Kh (l:List YBs) (h:(cat l).length≤4294967296) (h2:l.length≤4294967296):F8 (l,())=some (cat l,()):=by
 have hr:=Cn (B:=Jf) l.length (fun i=>(cat (l.take i),l,(l.length:Int),(i:Int),())) (cat l,())
  (fun i hi=>by
   have hx:=List.getElem?_eq_getElem hi
   have h3:=Ax0 l (i+1)
   rw[←Fd hx,Au1]at h3
   simp only[List.length_append]at h3
   unfold Jf
   simp only[Ae,Ai,Ac,Aj,Ep hi,A0,Ca hx,Ag]
   rw[Ak zq0,A8,w64 zq0,←Au1,Fd hx]
   rfl)
  (by unfold Jf;simp only[Ae,Ac,Er,Am,List.take_length])
 unfold F8 Adq
 simp only[Ai,Ac]
 rw[show Ay Jf ([],l,(l.length:Int),(0:Int),())=some (cat l,())from hr]
 rfl
end
end Go.Proofs.YtmhhajdeafijmaaGreat

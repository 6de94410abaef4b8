/-
  That the program and the reference answer alike, in plain terms, and that the laws answer true.
-/
import Derived.Test.YtmhhajdeafijmaaGreatL4
namespace Go.Proofs.YtmhhajdeafijmaaGreat
open Go.RowKit
set_option linter.unusedVariables false
set_option linter.unusedSimpArgs false
set_option maxHeartbeats 4000000
noncomputable section
theorem Ey {E:Type} {l:List E} {i:Nat} {x:E} (h:l[i]? =some x):l.take i++[x]=l.take (i+1):=by
 rw[List.take_add_one,h];rfl
theorem Dc (b:YBs) (h:b.1.length≤4294967296):Bg b=some b:=by
 unfold Bg Aic
 simp only[An,Ac,List.length_nil,Nat.zero_add,List.nil_append]
 rw[Al h];rfl
def byt (n:Int) (j:Nat):YB:=(IntKind.u8.wrap (IntKind.i64.wrap ((BitVec.ofInt (IntKind.i64.bits) (Int.fdiv n (2^(min (8*j) IntKind.i64.bits))) &&& BitVec.ofInt (IntKind.i64.bits) (255:Int)).toNat:Nat)),())
def Fi (n:Int) (k i:Nat):List YB:=(List.range i).map fun j=>byt n (k-1-j)
theorem Ix (n:Int) (k i:Nat):(Fi n k i).length=i:=by simp[Fi]
theorem A8r:Ir=Fp:=rfl
theorem Aw6 (b:List YB) (n:Int) (k:Nat) (h1:1≤k) (h6:k≤6) (hl:b.length≤1073741824):Fp (b,()) (n,()) ((k:Int),())=some (b++Fi n k k,()):=by
 have hr:=Cj (B:=Pb) k (fun i=>(n,b++Fi n k i,(k:Int)-1-(i:Int),())) (b++Fi n k k,())
  (fun i hi=>by
   unfold Pb
   simp only[Af,An,Ac]
   have e:(8:Int)*((k:Int)-1-(i:Int))=((8*(k-1-i):Nat):Int):=by omega
   rw[Al zq0,Az,w64 (n:=8*((k:Int)-1-(i:Int))) zq0,Al zq0,A5,Al (by simp[Ix];omega),A5,w64 (n:=(k:Int)-1-(i:Int)-1) zq0,e,Int.toNat_natCast]
   have e2:(b++Fi n k i)++[byt n (k-1-i)]=b++Fi n k (i+1):=by
    unfold Fi;rw[List.range_succ,List.map_append,List.append_assoc];rfl
   rw[←e2,show(k:Int)-1-((i+1:Nat):Int)=(k:Int)-1-(i:Int)-1 by omega]
   rfl)
  (by unfold Pb;simp only[Af,Ac,An];rw[Bi zq0,Ap])
 unfold Fp Amw
 simp only[Af,An,Ah,Ac,List.nil_append,List.length_nil,Nat.zero_add]
 rw[Al zq0,A5,Bi zq0,Ap,Bi zq0,Ap,w64 zq0]
 have e0:(n,b,(k:Int)-1,())=(n,b++Fi n k 0,(k:Int)-1-((0:Nat):Int),()):=by simp[Fi]
 rw[e0,hr]
 rfl
theorem A4x (b:List YB) (n:Int) (k:Nat) (h1:1≤k) (h6:k≤6) (hl:b.length≤1073741824):Ir (b,()) (n,()) ((k:Int),())=some (b++Fi n k k,()):=by
 rw[A8r];exact Aw6 b n k h1 h6 hl
theorem Rn (b:List YB) (n:Int) (hl:b.length≤1073741824):Fp (b,()) (n,()) ((4:Int),())=some (b++Fi n 4 4,()):=Aw6 b n 4 zq0 zq0 hl
theorem A8s (b:List YB) (n:Int) (hl:b.length≤1073741824):Fp (b,()) (n,()) ((6:Int),())=some (b++Fi n 6 6,()):=Aw6 b n 6 zq0 zq0 hl
theorem Ak0 (b:List YB) (n:Int) (hl:b.length≤1073741824):Ir (b,()) (n,()) ((4:Int),())=some (b++Fi n 4 4,()):=A4x b n 4 zq0 zq0 hl
theorem A1a (b:List YB) (n:Int) (hl:b.length≤1073741824):Ir (b,()) (n,()) ((6:Int),())=some (b++Fi n 6 6,()):=A4x b n 6 zq0 zq0 hl
def cat:List YBs→List YB
 |[]=>[]
 |x::r=>x.1++cat r
theorem Aw7 (l:List YBs) (x:YBs):cat (l++[x])=cat l++x.1:=by
 induction l with
 |nil=>simp[cat]
 |cons y r ih=>simp[cat,ih]
theorem A0b (l:List YBs) (i:Nat):(cat (l.take i)).length≤(cat l).length:=by
 induction l generalizing i with
 |nil=>simp
 |cons y r ih=>cases i with
  |zero=>simp[cat]
  |succ i=>simp[cat];exact ih i
theorem Lw (l:List YBs) (h:(cat l).length≤4294967296) (h2:l.length≤4294967296):F0 (l,())=some (cat l,()):=by
 have hr:=Cj (B:=I9) l.length (fun i=>(cat (l.take i),l,(l.length:Int),(i:Int),())) (cat l,())
  (fun i hi=>by
   have hx:=List.getElem?_eq_getElem hi
   have h3:=A0b l (i+1)
   rw[←Ey hx,Aw7]at h3
   simp only[List.length_append]at h3
   unfold I9
   simp only[Af,Ah,Ac,An,En hi,Az,Ce hx,Ai]
   rw[Al zq0,A5,w64 zq0,←Aw7,Ey hx]
   rfl)
  (by unfold I9;simp only[Af,Ac,Eo,Ap,List.take_length])
 unfold F0 Aeb
 simp only[Ah,Ac]
 rw[show Ay I9 ([],l,(l.length:Int),(0:Int),())=some (cat l,())from hr]
 rfl
end
end Go.Proofs.YtmhhajdeafijmaaGreat

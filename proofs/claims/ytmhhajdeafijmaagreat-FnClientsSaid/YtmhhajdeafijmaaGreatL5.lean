/-
  That the program and the reference answer alike, in plain terms, and that the laws answer true.
-/
import Derived.Test.YtmhhajdeafijmaaGreatL4
namespace Go.Proofs.YtmhhajdeafijmaaGreat
open Go.RowKit
set_option linter.unusedVariables false
set_option linter.unusedSimpArgs false
set_option maxHeartbeats 4000000
noncomputable section
theorem Gk {E:Type} {l:List E} {i:Nat} {x:E} (h:l[i]? =some x):l.take i++[x]=l.take (i+1):=by
 rw[List.take_add_one,h];rfl
theorem C4 (b:YBs) (h:b.1.length≤4294967296):A5 b=some b:=by
 unfold A5 Akt
 simp only[Aq,Af,List.length_nil,Nat.zero_add,List.nil_append]
 rw[Ap h];rfl
def byt (n:Int) (j:Nat):YB:=(IntKind.u8.wrap (IntKind.i64.wrap ((BitVec.ofInt (IntKind.i64.bits) (Int.fdiv n (2^(min (8*j) IntKind.i64.bits))) &&& BitVec.ofInt (IntKind.i64.bits) (255:Int)).toNat:Nat)),())
def Fb (n:Int) (k i:Nat):List YB:=(List.range i).map fun j=>byt n (k-1-j)
theorem F7 (n:Int) (k i:Nat):(Fb n k i).length=i:=by simp[Fb]
theorem Ba5:H6=Ff:=rfl
theorem Azf (b:List YB) (n:Int) (k:Nat) (h1:1≤k) (h6:k≤6) (hl:b.length≤1073741824):Ff (b,()) (n,()) ((k:Int),())=some (b++Fb n k k,()):=by
 have hr:=Cv (B:=N5) k (fun i=>(n,b++Fb n k i,(k:Int)-1-(i:Int),())) (b++Fb n k k,())
  (fun i hi=>by
   unfold N5
   simp only[Aj,Aq,Af]
   have e:(8:Int)*((k:Int)-1-(i:Int))=((8*(k-1-i):Nat):Int):=by omega
   rw[Ap zq0,Az,w64 (n:=8*((k:Int)-1-(i:Int))) zq0,Ap zq0,Bd,Ap (by simp[F7];omega),Bd,w64 (n:=(k:Int)-1-(i:Int)-1) zq0,e,Int.toNat_natCast]
   have e2:(b++Fb n k i)++[byt n (k-1-i)]=b++Fb n k (i+1):=by
    unfold Fb;rw[List.range_succ,List.map_append,List.append_assoc];rfl
   rw[←e2,show(k:Int)-1-((i+1:Nat):Int)=(k:Int)-1-(i:Int)-1 by omega]
   rfl)
  (by unfold N5;simp only[Aj,Af,Aq];rw[Bg zq0,Aw])
 unfold Ff Apk
 simp only[Aj,Aq,Al,Af,List.nil_append,List.length_nil,Nat.zero_add]
 rw[Ap zq0,Bd,Bg zq0,Aw,Bg zq0,Aw,w64 zq0]
 have e0:(n,b,(k:Int)-1,())=(n,b++Fb n k 0,(k:Int)-1-((0:Nat):Int),()):=by simp[Fb]
 rw[e0,hr]
 rfl
theorem A69 (b:List YB) (n:Int) (k:Nat) (h1:1≤k) (h6:k≤6) (hl:b.length≤1073741824):H6 (b,()) (n,()) ((k:Int),())=some (b++Fb n k k,()):=by
 rw[Ba5];exact Azf b n k h1 h6 hl
theorem Qr (b:List YB) (n:Int) (hl:b.length≤1073741824):Ff (b,()) (n,()) ((4:Int),())=some (b++Fb n 4 4,()):=Azf b n 4 zq0 zq0 hl
theorem Ba6 (b:List YB) (n:Int) (hl:b.length≤1073741824):Ff (b,()) (n,()) ((6:Int),())=some (b++Fb n 6 6,()):=Azf b n 6 zq0 zq0 hl
theorem Anb (b:List YB) (n:Int) (hl:b.length≤1073741824):H6 (b,()) (n,()) ((4:Int),())=some (b++Fb n 4 4,()):=A69 b n 4 zq0 zq0 hl
theorem A3f (b:List YB) (n:Int) (hl:b.length≤1073741824):H6 (b,()) (n,()) ((6:Int),())=some (b++Fb n 6 6,()):=A69 b n 6 zq0 zq0 hl
def cat:List YBs→List YB
 |[]=>[]
 |x::r=>x.1++cat r
theorem Azg (l:List YBs) (x:YBs):cat (l++[x])=cat l++x.1:=by
 induction l with
 |nil=>simp[cat]
 |cons y r ih=>simp[cat,ih]
theorem A2f (l:List YBs) (i:Nat):(cat (l.take i)).length≤(cat l).length:=by
 induction l generalizing i with
 |nil=>simp
 |cons y r ih=>cases i with
  |zero=>simp[cat]
  |succ i=>simp[cat];exact ih i
theorem H8 (l:List YBs) (h:(cat l).length≤4294967296) (h2:l.length≤4294967296):Ej (l,())=some (cat l,()):=by
 have hr:=Cv (B:=Im) l.length (fun i=>(cat (l.take i),l,(l.length:Int),(i:Int),())) (cat l,())
  (fun i hi=>by
   have hx:=List.getElem?_eq_getElem hi
   have h3:=A2f l (i+1)
   rw[←Gk hx,Azg]at h3
   simp only[List.length_append]at h3
   unfold Im
   simp only[Aj,Al,Af,Aq,O9 hi,Az,Di hx,An]
   rw[Ap zq0,Bd,w64 zq0,←Azg,Gk hx]
   rfl)
  (by unfold Im;simp only[Aj,Af,Pa,Aw,List.take_length])
 unfold Ej Ag1
 simp only[Al,Af]
 rw[show A1 Im ([],l,(l.length:Int),(0:Int),())=some (cat l,())from hr]
 rfl
end
end Go.Proofs.YtmhhajdeafijmaaGreat

/-
  That the program and the reference answer alike, in plain terms, and that the laws answer true.
-/
import Derived.Test.YtmhhajdeafijmaaL4
namespace Go.Proofs.Ytmhhajdeafijmaa
open Go.RowKit
set_option linter.unusedVariables false
set_option linter.unusedSimpArgs false
set_option maxHeartbeats 4000000
noncomputable section
theorem E4 {E:Type} {l:List E} {i:Nat} {x:E} (h:l[i]? =some x):l.take i++[x]=l.take (i+1):=by
 rw[List.take_add_one,h];rfl
theorem I8 (b:YBs) (h:b.1.length≤4294967296):C0 b=some b:=by
 unfold C0 Q3
 simp only[Aj,Ac,List.length_nil,Nat.zero_add,List.nil_append]
 rw[Ah h];rfl
def byt (n:Int) (j:Nat):YB:=(IntKind.u8.wrap (IntKind.i64.wrap ((BitVec.ofInt (IntKind.i64.bits) (Int.fdiv n (2^(min (8*j) IntKind.i64.bits))) &&& BitVec.ofInt (IntKind.i64.bits) (255:Int)).toNat:Nat)),())
def Bm (n:Int) (k i:Nat):List YB:=(List.range i).map fun j=>byt n (k-1-j)
theorem Ei (n:Int) (k i:Nat):(Bm n k i).length=i:=by simp[Bm]
theorem Ajx:Ci=Dw:=rfl
theorem Abq (b:List YB) (n:Int) (k:Nat) (h1:1≤k) (h6:k≤6) (hl:b.length≤1073741824):Dw (b,()) (n,()) ((k:Int),())=some (b++Bm n k k,()):=by
 have hr:=By (B:=Ie) k (fun i=>(n,b++Bm n k i,(k:Int)-1-(i:Int),())) (b++Bm n k k,())
  (fun i hi=>by
   unfold Ie
   simp only[Ad,Aj,Ac]
   have e:(8:Int)*((k:Int)-1-(i:Int))=((8*(k-1-i):Nat):Int):=by omega
   rw[Ah zq0,Ay,w64 (n:=8*((k:Int)-1-(i:Int))) zq0,Ah zq0,Aw,Ah (by simp[Ei];omega),Aw,w64 (n:=(k:Int)-1-(i:Int)-1) zq0,e,Int.toNat_natCast]
   have e2:(b++Bm n k i)++[byt n (k-1-i)]=b++Bm n k (i+1):=by
    unfold Bm;rw[List.range_succ,List.map_append,List.append_assoc];rfl
   rw[←e2,show(k:Int)-1-((i+1:Nat):Int)=(k:Int)-1-(i:Int)-1 by omega]
   rfl)
  (by unfold Ie;simp only[Ad,Ac,Aj];rw[Aq zq0,Am])
 unfold Dw T3
 simp only[Ad,Aj,Af,Ac,List.nil_append,List.length_nil,Nat.zero_add]
 rw[Ah zq0,Aw,Aq zq0,Am,Aq zq0,Am,w64 zq0]
 have e0:(n,b,(k:Int)-1,())=(n,b++Bm n k 0,(k:Int)-1-((0:Nat):Int),()):=by simp[Bm]
 rw[e0,hr]
 rfl
theorem Ahd (b:List YB) (n:Int) (k:Nat) (h1:1≤k) (h6:k≤6) (hl:b.length≤1073741824):Ci (b,()) (n,()) ((k:Int),())=some (b++Bm n k k,()):=by
 rw[Ajx];exact Abq b n k h1 h6 hl
theorem N5 (b:List YB) (n:Int) (hl:b.length≤1073741824):Dw (b,()) (n,()) ((4:Int),())=some (b++Bm n 4 4,()):=Abq b n 4 zq0 zq0 hl
theorem Ajy (b:List YB) (n:Int) (hl:b.length≤1073741824):Dw (b,()) (n,()) ((6:Int),())=some (b++Bm n 6 6,()):=Abq b n 6 zq0 zq0 hl
theorem I9 (b:List YB) (n:Int) (hl:b.length≤1073741824):Ci (b,()) (n,()) ((4:Int),())=some (b++Bm n 4 4,()):=Ahd b n 4 zq0 zq0 hl
theorem Sq (b:List YB) (n:Int) (hl:b.length≤1073741824):Ci (b,()) (n,()) ((6:Int),())=some (b++Bm n 6 6,()):=Ahd b n 6 zq0 zq0 hl
def cat:List YBs→List YB
 |[]=>[]
 |x::r=>x.1++cat r
theorem Abr (l:List YBs) (x:YBs):cat (l++[x])=cat l++x.1:=by
 induction l with
 |nil=>simp[cat]
 |cons y r ih=>simp[cat,ih]
theorem Ads (l:List YBs) (i:Nat):(cat (l.take i)).length≤(cat l).length:=by
 induction l generalizing i with
 |nil=>simp
 |cons y r ih=>cases i with
  |zero=>simp[cat]
  |succ i=>simp[cat];exact ih i
theorem Da (l:List YBs) (h:(cat l).length≤4294967296) (h2:l.length≤4294967296):Bn (l,())=some (cat l,()):=by
 have hr:=By (B:=Ek) l.length (fun i=>(cat (l.take i),l,(l.length:Int),(i:Int),())) (cat l,())
  (fun i hi=>by
   have hx:=List.getElem?_eq_getElem hi
   have h3:=Ads l (i+1)
   rw[←E4 hx,Abr]at h3
   simp only[List.length_append]at h3
   unfold Ek
   simp only[Ad,Af,Ac,Aj,Iq hi,Ay,B8 hx,Ae]
   rw[Ah zq0,Aw,w64 zq0,←Abr,E4 hx]
   rfl)
  (by unfold Ek;simp only[Ad,Ac,Le,Am,List.take_length])
 unfold Bn Ov
 simp only[Af,Ac]
 rw[show Al Ek ([],l,(l.length:Int),(0:Int),())=some (cat l,())from hr]
 rfl
end
end Go.Proofs.Ytmhhajdeafijmaa

/-
  That the program and the reference answer alike, in plain terms, and that the laws answer true.
-/
import Derived.Test.YtfljmgnghlpapaaGreatL4
namespace Go.Proofs.YtfljmgnghlpapaaGreat
open Go.RowKit
set_option linter.unusedVariables false
set_option linter.unusedSimpArgs false
set_option maxHeartbeats 4000000
noncomputable section
theorem Ew {E:Type} {l:List E} {i:Nat} {x:E} (h:l[i]? =some x):l.take i++[x]=l.take (i+1):=by
 rw[List.take_add_one,h];rfl
theorem Lc (b:YBs) (h:b.1.length≤4294967296):C7 b=some b:=by
 unfold C7 Abv
 simp only[Am,Ab,List.length_nil,Nat.zero_add,List.nil_append]
 rw[Ao h];rfl
def byt (n:Int) (j:Nat):YB:=(IntKind.u8.wrap (IntKind.i64.wrap ((BitVec.ofInt (IntKind.i64.bits) (Int.fdiv n (2^(min (8*j) IntKind.i64.bits))) &&& BitVec.ofInt (IntKind.i64.bits) (255:Int)).toNat:Nat)),())
def Ha (n:Int) (k i:Nat):List YB:=(List.range i).map fun j=>byt n (k-1-j)
theorem Ry (n:Int) (k i:Nat):(Ha n k i).length=i:=by simp[Ha]
theorem Azl (b:List YB) (n:Int) (k:Nat) (h1:1≤k) (h6:k≤6) (hl:b.length≤1073741824):Ky (b,()) (n,()) ((k:Int),())=some (b++Ha n k k,()):=by
 have hr:=Co (B:=Lm) k (fun i=>(n,b++Ha n k i,(k:Int)-1-(i:Int),())) (b++Ha n k k,())
  (fun i hi=>by
   unfold Lm
   simp only[Ah,Am,Ab]
   have e:(8:Int)*((k:Int)-1-(i:Int))=((8*(k-1-i):Nat):Int):=by omega
   rw[Ao zq0,A9,w64 (n:=8*((k:Int)-1-(i:Int))) zq0,Ao zq0,Bd,Ao (by simp[Ry];omega),Bd,w64 (n:=(k:Int)-1-(i:Int)-1) zq0,e,Int.toNat_natCast]
   have e2:(b++Ha n k i)++[byt n (k-1-i)]=b++Ha n k (i+1):=by
    unfold Ha;rw[List.range_succ,List.map_append,List.append_assoc];rfl
   rw[←e2,show(k:Int)-1-((i+1:Nat):Int)=(k:Int)-1-(i:Int)-1 by omega]
   rfl)
  (by unfold Lm;simp only[Ah,Ab,Am];rw[Bn zq0,A1])
 unfold Ky Afc
 simp only[Ah,Am,Ai,Ab,List.nil_append,List.length_nil,Nat.zero_add]
 rw[Ao zq0,Bd,Bn zq0,A1,Bn zq0,A1,w64 zq0]
 have e0:(n,b,(k:Int)-1,())=(n,b++Ha n k 0,(k:Int)-1-((0:Nat):Int),()):=by simp[Ha]
 rw[e0,hr]
 rfl
theorem Adp (b:List YB) (n:Int) (hl:b.length≤1073741824):Ky (b,()) (n,()) ((4:Int),())=some (b++Ha n 4 4,()):=Azl b n 4 zq0 zq0 hl
end
end Go.Proofs.YtfljmgnghlpapaaGreat

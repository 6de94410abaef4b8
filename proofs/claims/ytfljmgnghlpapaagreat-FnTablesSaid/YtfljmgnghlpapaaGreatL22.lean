/-
  That the program and the reference answer alike, in plain terms, and that the laws answer true.
-/
import Derived.Test.YtfljmgnghlpapaaGreatL21
namespace Go.Proofs.YtfljmgnghlpapaaGreat
open Go.RowKit
set_option linter.unusedVariables false
set_option linter.unusedSimpArgs false
set_option maxRecDepth 100000
set_option maxHeartbeats 4000000
noncomputable section
def Dl (l:List Af):Nat:=l.countP fun x=> !Do x
theorem Jl (t:A7) (h:t.2.1.length≤4294967296):Dy t=(Dl t.2.1:Nat):=by
 obtain⟨cap,l,⟨⟩⟩:=t
 simp only at h
 have hl:=Co (B:=Ff) l.length (fun i=>(((Dl (l.take i):Nat):Int),l,(l.length:Int),(i:Int),())) (((Dl l:Nat):Int),())
  (fun i hi=>by
   have hx:=List.getElem?_eq_getElem hi
   have hc:Dl (l.take (i+1))=Dl (l.take i)+(if Do l[i]=true then 0 else 1):=by
    rw[←Ew hx]
    unfold Dl
    rw[List.countP_append]
    cases hd:Do l[i]<;>simp[List.countP_cons,hd]
   have hle:Dl (l.take i)≤i:=by
    have:=List.countP_le_length (p:=fun x=> !Do x) (l:=l.take i)
    simp only[List.length_take]at this
    unfold Dl;omega
   unfold Ff
   simp (disch:=omega) only[Ah,Ai,Ab,Db hi,A9,B7 hx,Ak,w64]
   simp only[Ass]
   rw[hc]
   split
   ·rename_i h1
    have h2:Do l[i]=false:=by simpa using h1
    rw[if_neg (by rw[h2];decide)]
    simp
   ·rename_i h1
    have h2:Do l[i]=true:=by simpa using h1
    rw[if_pos h2]
    simp)
  (by unfold Ff;simp only[Ah,Ab,Dc,A1,List.take_length])
 unfold Dy Aq Xb
 simp only[Ai,Ab]
 rw[show As Ff ((0:Int),l,(l.length:Int),(0:Int),())=_ from hl]
 rfl
end
end Go.Proofs.YtfljmgnghlpapaaGreat

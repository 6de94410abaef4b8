/-
  That the program and the reference answer alike, in plain terms, and that the laws answer true.
-/
import Derived.Test.YtmhhajdeafijmaaGreatL12
namespace Go.Proofs.YtmhhajdeafijmaaGreat
open Go.RowKit
set_option linter.unusedVariables false
set_option linter.unusedSimpArgs false
set_option maxRecDepth 100000
set_option maxHeartbeats 4000000
noncomputable section
theorem Axg {E:Type} {f:E→Nat}: ∀ {l:List E} {i:Nat} {x:E},Cm f (l.set i x)≤Cm f l+f x
 |[],_,_=>by simp[Cm]
 |a::r,0,x=>by simp only[List.set_cons_zero,Cm];omega
 |a::r,i+1,x=>by have:=Axg (f:=f) (l:=r) (i:=i) (x:=x);simp only[List.set_cons_succ,Cm];omega
def J3 (k l:List YB):List YB×Bool:=if l.length≤100∧k.length≤1048576 then(F7 k (l++[((1:Int),())]),true)else([],false)
theorem A2y (k l:List YB):Aes (k,()) (l,()) ((32:Int),())=some (((J3 k l).1,()),((J3 k l).2,())):=by
 unfold Aes Aer J3
 simp only[Af,Ah,Ac,An,C9,Ai]
 rw[Dv zq3]
 by_cases hl:l.length≤100
 ·rw[Bi zq0,Ap]
  by_cases hk:k.length≤1048576
  ·rw[Bi zq0,Ap,if_pos ⟨hl,hk⟩]
   have h32:(F7 k (l++[((1:Int),())])).length=32:=Ak3 _ _ hk zq1
   have e1:Je (k,l,(32:Int),[],[],(1:Int),())=some (.inl (k,l,(32:Int),F7 k (l++[((1:Int),())]),F7 k (l++[((1:Int),())]),(2:Int),())):=by
    unfold Je
    simp only[Af,Ah,Ac,An]
    rw[Al (by simp),Az,Lw _ (by simp[cat];omega) (by simp),Ai,show cat [([],()),(l,()),([(IntKind.u8.wrap 1,())],())]=l++[((1:Int),())] by simp[cat];rfl,Axe,Ai,Al (by dsimp only[List.length_nil];omega),A5,List.nil_append]
    rfl
   have e2:Je (k,l,(32:Int),F7 k (l++[((1:Int),())]),F7 k (l++[((1:Int),())]),(2:Int),())=some (.inr ((32:Int),F7 k (l++[((1:Int),())]),())):=by
    unfold Je
    simp only[Af,Ah,Ac,An]
    rw[Bi zq0,Ap]
   rw[Cz,e1]
   simp only
   rw[Cz,e2]
   simp only[Ai]
   rw[Al zq0,A5,Al zq0,A5,show(32:Int).toNat=32 from rfl,show(0:Int).toNat=0 from rfl,List.drop_zero,List.take_of_length_le zq0,Dc _ zq2,Ai]
  ·rw[Al zq0,Az,if_neg (fun h=>hk h.2)]
 ·rw[Al zq0,Az,if_neg (fun h=>hl h.1)]
theorem A2z (k l:List YB):Ac1 (k,()) (l,()) ((32:Int),())=some (((J3 k l).1,()),((J3 k l).2,())):=by
 unfold Ac1 Ac0 J3
 simp only[Af,Ah,Ac,An,C4,Ai,List.nil_append,List.length_nil,Nat.zero_add]
 rw[Dv zq3]
 by_cases hl:l.length≤100
 ·rw[Bi zq0,Ap]
  by_cases hk:k.length≤1048576
  ·rw[Bi zq0,Ap,if_pos ⟨hl,hk⟩]
   have h32:(F7 k (l++[((1:Int),())])).length=32:=Ak3 _ _ hk zq1
   have e1:I3 (k,l,(32:Int),[],[],(1:Int),())=some (.inl (k,l,(32:Int),F7 k (l++[((1:Int),())]),F7 k (l++[((1:Int),())]),(2:Int),())):=by
    unfold I3
    simp only[Af,Ah,Ac,An,List.nil_append,List.length_nil,Nat.zero_add]
    rw[Al (by simp),Az,Al zq0,A5,Al zq0,A5,Al zq1,A5,show(IntKind.u8.wrap 1:Int)=1 from rfl,Ajv,Ai,Al zq2,A5]
    rfl
   have e2:I3 (k,l,(32:Int),F7 k (l++[((1:Int),())]),F7 k (l++[((1:Int),())]),(2:Int),())=some (.inr ((32:Int),F7 k (l++[((1:Int),())]),())):=by
    unfold I3
    simp only[Af,Ah,Ac,An]
    rw[Bi zq0,Ap]
   rw[Cz,e1]
   simp only
   rw[Cz,e2]
   simp only[Ai]
   rw[Al zq0,A5,Al zq0,A5,show(32:Int).toNat=32 from rfl,show(0:Int).toNat=0 from rfl,List.drop_zero,List.take_of_length_le zq0,Al zq0,A5]
  ·rw[Al zq0,Az,if_neg (fun h=>hk h.2)]
 ·rw[Al zq0,Az,if_neg (fun h=>hl h.1)]
def F9 (k l:List YB):List YB:=(J3 k l).1
theorem Aql (k l:List YB):(F9 k l).length=32∨(F9 k l).length=0:=by
 unfold F9 J3
 split
 ·exact An2 _ _
 ·right;rfl
theorem A7b (k:List YB) (b:ByteArray) (h:b.size≤4294967296):Ur (k,()) (b,())=some (F9 k (Pf b),()):=by
 unfold Ur Aet
 simp only[Ah,Ac,An]
 rw[Al h,A5,A2y,Ai];rfl
theorem An5 (k:List YB) (b:ByteArray) (h:b.size≤4294967296):Cr (k,()) (b,())=some (F9 k (Pf b),()):=by
 unfold Cr Ac2
 simp only[Ah,Ac,An]
 rw[Al h,A5,A2z,Ai];rfl
def Td:List YB:=Pf (C8 [114,101,107,101,121])
def A48:List YB:=Pf (C8 [101,112,111,99,104])
theorem A49 (k:List YB):Ur (k,()) (C8 [114,101,107,101,121],())=some (F9 k Td,()):=A7b k _ zq3
theorem Ajy (k:List YB):Cr (k,()) (C8 [114,101,107,101,121],())=some (F9 k Td,()):=An5 k _ zq3
theorem A5a (k:List YB):Cr (k,()) (C8 [101,112,111,99,104],())=some (F9 k A48,()):=An5 k _ zq3
def Aqm (k:List YB):Nat→List YB
 |0=>k
 |n+1=>F9 (Aqm k n) Td
def Axh (k:List YB) (n:Int):List YB:=if 0≤n∧n≤64 then Aqm k n.toNat else []
theorem A8x (k:List YB) (n:Int) (h:k.length≤4294967296):Ahy (k,()) (n,())=some (Axh k n,()):=by
 unfold Ahy Ahx Axh
 simp only[Af,Ah,Ac,An,C4,Ai,List.nil_append,List.length_nil,Nat.zero_add]
 by_cases hn:0≤n∧n≤64
 ·obtain⟨m,rfl⟩:=Int.eq_ofNat_of_zero_le hn.1
  have hr:=Cj (B:=Km) m (fun i=>((m:Int),Aqm k i,(i:Int),())) (Aqm k m,())
   (fun i hi=>by
    unfold Km
    simp only[Af,Ah,Ac]
    rw[Al zq0,Az,Ajy,Ai,w64 zq0]
    rfl)
   (by
    unfold Km
    simp only[Af,Ah,Ac]
    rw[Bi zq0,Ap])
  rw[Dv (by simp[inR];omega),Al h,A5,if_pos hn]
  rw[show Ay Km ((m:Int),k,(0:Int),())=_ from hr,Ai]
  rfl
 ·rw[if_neg hn,F3 (by simp[inR];omega)]
def U8 (p a b:List YB):List YB:=if inR (p.length:Int) 1 32=true∧a.length=12∧b.length=12 then F7 (a++b) p else []
theorem A5b (p a b:List YB):Zs (p,()) (a,()) (b,())=some (U8 p a b,()):=by
 unfold Zs Zr U8 R5 R4
 simp only[Af,Ah,Ac,An,Asm,Ai,Avt,List.nil_append,List.length_nil,Nat.zero_add]
 cases inR (p.length:Int) 1 32 with
 |false=>rw[if_neg (by simp)];rfl
 |true=>
  simp only[Bool.not_true,Ap]
  by_cases h1:a.length=12
  ·rw[Dv (by simp[h1])]
   by_cases h2:b.length=12
   ·rw[Dv (by simp[h2]),Al zq0,A5,Al zq0,A5,Ajv,if_pos ⟨trivial,h1,h2⟩];rfl
   ·rw[F3 zq1,if_neg (fun h=>h2 h.2.2)]
  ·rw[F3 zq1,if_neg (fun h=>h1 h.2.1)]
def L0 (r:List YB):List YB:=if r.length=32 then F9 r A48 else []
theorem Axi (r:List YB):(L0 r).length=32∨(L0 r).length=0:=by
 unfold L0
 split
 ·exact Aql _ _
 ·right;rfl
theorem A20 (r:List YB):Vm (r,())=some (L0 r,()):=by
 unfold Vm Vl L0
 simp only[Af,Ah,Ac,A5a,Ai]
 by_cases h:r.length=32
 ·rw[if_pos h,Dv (by simp[h])]
 ·rw[if_neg h,F3 zq1]
def Axj (p a b:List YB) (n:Int):List YB:=if (L0 (U8 p a b)).length=0 then []else Axh (L0 (U8 p a b)) n
theorem A21 (p a b:List YB) (n:YI):Vo (p,()) (a,()) (b,()) n=some (Axj p a b n.1,()):=by
 have hf:=Axi (U8 p a b)
 unfold Vo Vn Axj
 simp only[Af,Ah,Ac,A5b,A20,Ai]
 by_cases h:(L0 (U8 p a b)).length=0
 ·rw[if_pos h,F3 (by simp[h]),List.eq_nil_of_length_eq_zero h]
 ·rw[if_neg h,Dv (by simp;intro e;rw[e]at h;exact h rfl),A8x _ _ zq0];rfl
theorem Afz:Uj=Ul:=by
 have hr:=Cj (B:=I4) 32 (fun i=>((i:Int),(0:Int),([]:List YI),(-1:Int),List.replicate i ((0:Int),()),())) ((0:Int),([]:List YI),(-1:Int),List.replicate 32 ((0:Int),()),())
  (fun i hi=>by
   unfold I4
   simp only[Af,An,Ac]
   rw[Al zq0,Az,Al zq1,A5,w64 zq0,List.replicate_succ']
   rfl)
  (by
   unfold I4
   simp only[Af,An,Ac]
   rw[Bi zq0,Ap])
 unfold Uj Ac6 Ul Aea
 simp only[Ah,Ac]
 rw[show Ay I4 ((0:Int),(0:Int),([]:List YI),(-1:Int),([]:List YI),())=_ from hr,Ai]
 rfl
def W6:Bv:=((-1:Int),List.replicate 32 ((0:Int),()),())
theorem Af0:Ul=some W6:=rfl
theorem An6 (n:YI) (k:YBs): ∃r,La n k=some r∧Dx n k=some r∧Bs r≤64:=by
 unfold La Xo Dx Sx
 simp only[Af,Ah,Ac,An,C9,C4,Ai,Afz,Af0,List.nil_append,List.length_nil,Nat.zero_add]
 cases inR n.1 0 4294967295 with
 |false=>exact⟨_,rfl,rfl,by decide⟩
 |true=>
  simp only[Bool.not_true,Ap]
  by_cases h:k.1.length=32
  ·have q:((k.1.length:Int) != 32)=false:=by simp[h]
   rw[q,Dc k zq0,Al zq0]
   simp only[Ap,Ai,A5]
   refine⟨_,rfl,rfl,?_⟩
   simp only[Bs,W6,List.length_replicate];omega
  ·have q:((k.1.length:Int) != 32)=true:=by simp;omega
   rw[q]
   exact⟨_,rfl,rfl,by decide⟩
end
end Go.Proofs.YtmhhajdeafijmaaGreat

/-
  That the program and the reference answer alike, in plain terms, and that the laws answer true.
-/
import Derived.Test.YtjlblagmjlmglaaGreatL12
namespace Go.Proofs.YtjlblagmjlmglaaGreat
open Go.RowKit
set_option linter.unusedVariables false
set_option linter.unusedSimpArgs false
set_option maxRecDepth 100000
set_option maxHeartbeats 4000000
noncomputable section
def Jo (k l:List YB):List YB×Bool:=if l.length≤100∧k.length≤1048576 then(Fq k (l++[((1:Int),())]),true)else([],false)
theorem A42 (k l:List YB):Ahi (k,()) (l,()) ((32:Int),())=some (((Jo k l).1,()),((Jo k l).2,())):=by
 unfold Ahi Ase Jo
 simp only[Ai,Aj,Ad,Ap,B6,Al]
 rw[Co zq4]
 by_cases hl:l.length≤100
 ·rw[Bb zq0,Aq]
  by_cases hk:k.length≤1048576
  ·rw[Bb zq0,Aq,if_pos ⟨hl,hk⟩]
   have h32:(Fq k (l++[((1:Int),())])).length=32:=Qt _ _ hk zq1
   have e1:Le (k,l,(32:Int),[],[],(1:Int),())=some (.inl (k,l,(32:Int),Fq k (l++[((1:Int),())]),Fq k (l++[((1:Int),())]),(2:Int),())):=by
    unfold Le
    simp only[Ai,Aj,Ad,Ap]
    rw[Ao zq3,Ax,Ie _ (by simp[cat];omega) zq3,Al,show cat [([],()),(l,()),([(IntKind.u8.wrap 1,())],())]=l++[((1:Int),())] by simp[cat];rfl,Alr,Al,Ao (by dsimp only[List.length_nil];omega),A8,List.nil_append]
    rfl
   have e2:Le (k,l,(32:Int),Fq k (l++[((1:Int),())]),Fq k (l++[((1:Int),())]),(2:Int),())=some (.inr ((32:Int),Fq k (l++[((1:Int),())]),())):=by
    unfold Le
    simp only[Ai,Aj,Ad,Ap]
    rw[Bb zq0,Aq]
   rw[Cf,e1]
   simp only
   rw[Cf,e2]
   simp only[Al]
   rw[Ao zq0,A8,Ao zq0,A8,show(32:Int).toNat=32 from rfl,show(0:Int).toNat=0 from rfl,List.drop_zero,List.take_of_length_le zq0,Cg _ zq2,Al]
  ·rw[Ao zq0,Ax,if_neg (fun h=>hk h.2)]
 ·rw[Ao zq0,Ax,if_neg (fun h=>hl h.1)]
theorem A43 (k l:List YB):Ag2 (k,()) (l,()) ((32:Int),())=some (((Jo k l).1,()),((Jo k l).2,())):=by
 unfold Ag2 Afo Jo
 simp only[Ai,Aj,Ad,Ap,Bv,Al,List.nil_append,List.length_nil,Nat.zero_add]
 rw[Co zq4]
 by_cases hl:l.length≤100
 ·rw[Bb zq0,Aq]
  by_cases hk:k.length≤1048576
  ·rw[Bb zq0,Aq,if_pos ⟨hl,hk⟩]
   have h32:(Fq k (l++[((1:Int),())])).length=32:=Qt _ _ hk zq1
   have e1:Ij (k,l,(32:Int),[],[],(1:Int),())=some (.inl (k,l,(32:Int),Fq k (l++[((1:Int),())]),Fq k (l++[((1:Int),())]),(2:Int),())):=by
    unfold Ij
    simp only[Ai,Aj,Ad,Ap,List.nil_append,List.length_nil,Nat.zero_add]
    rw[Ao zq3,Ax,Ao zq0,A8,Ao zq0,A8,Ao zq1,A8,show(IntKind.u8.wrap 1:Int)=1 from rfl,Als,Al,Ao zq2,A8]
    rfl
   have e2:Ij (k,l,(32:Int),Fq k (l++[((1:Int),())]),Fq k (l++[((1:Int),())]),(2:Int),())=some (.inr ((32:Int),Fq k (l++[((1:Int),())]),())):=by
    unfold Ij
    simp only[Ai,Aj,Ad,Ap]
    rw[Bb zq0,Aq]
   rw[Cf,e1]
   simp only
   rw[Cf,e2]
   simp only[Al]
   rw[Ao zq0,A8,Ao zq0,A8,show(32:Int).toNat=32 from rfl,show(0:Int).toNat=0 from rfl,List.drop_zero,List.take_of_length_le zq0,Ao zq0,A8]
  ·rw[Ao zq0,Ax,if_neg (fun h=>hk h.2)]
 ·rw[Ao zq0,Ax,if_neg (fun h=>hl h.1)]
def Hf (k l:List YB):List YB:=(Jo k l).1
theorem Ah0 (k l:List YB):(Hf k l).length=32∨(Hf k l).length=0:=by
 unfold Hf Jo
 split
 ·exact Ahu _ _
 ·right;rfl
theorem Ap5 (k:List YB) (b:ByteArray) (h:b.size≤4294967296):Jn (k,()) (b,())=some (Hf k (Oy b),()):=by
 unfold Jn Asf
 simp only[Aj,Ad,Ap]
 rw[Ao h,A8,A42,Al];rfl
theorem Ap6 (k:List YB) (b:ByteArray) (h:b.size≤4294967296):Cm (k,()) (b,())=some (Hf k (Oy b),()):=by
 unfold Cm Afp
 simp only[Aj,Ad,Ap]
 rw[Ao h,A8,A43,Al];rfl
def Alv:List YB:=Oy (Ci [114,101,107,101,121])
def Azh:List YB:=Oy (Ci [101,112,111,99,104])
theorem A7e (k:List YB):Jn (k,()) (Ci [114,101,107,101,121],())=some (Hf k Alv,()):=Ap5 k _ zq4
theorem Av6 (k:List YB):Cm (k,()) (Ci [114,101,107,101,121],())=some (Hf k Alv,()):=Ap6 k _ zq4
theorem A7f (k:List YB):Jn (k,()) (Ci [101,112,111,99,104],())=some (Hf k Azh,()):=Ap5 k _ zq4
theorem A7g (k:List YB):Cm (k,()) (Ci [101,112,111,99,104],())=some (Hf k Azh,()):=Ap6 k _ zq4
def Aew (k:List YB):Nat→List YB
 |0=>k
 |n+1=>Hf (Aew k n) Alv
def Z7 (k:List YB) (n:Int):List YB:=if 0≤n∧n≤64 then Aew k n.toNat else []
theorem Ba7 (k:List YB) (n:Int) (h:k.length≤4294967296):Alj (k,()) (n,())=some (Z7 k n,()):=by
 unfold Alj Av0 Z7
 simp only[Ai,Aj,Ad,B6,Al]
 by_cases hn:0≤n∧n≤64
 ·obtain⟨m,rfl⟩:=Int.eq_ofNat_of_zero_le hn.1
  have hr:=C5 (B:=Mn) m (fun i=>((m:Int),Aew k i,(i:Int),())) (Aew k m,())
   (fun i hi=>by
    unfold Mn
    simp only[Ai,Aj,Ad]
    rw[Ao zq0,Ax,A7e,Al,w64 zq0]
    rfl)
   (by
    unfold Mn
    simp only[Ai,Aj,Ad]
    rw[Bb zq0,Aq])
  rw[Co zq5,Cg _ h,Al,if_pos hn]
  rw[show Az Mn ((m:Int),k,(0:Int),())=_ from hr,Al]
  rfl
 ·rw[if_neg hn,Ec zq5]
theorem Ba8 (k:List YB) (n:Int) (h:k.length≤4294967296):Ak8 (k,()) (n,())=some (Z7 k n,()):=by
 unfold Ak8 Aj7 Z7
 simp only[Ai,Aj,Ad,Ap,Bv,Al,List.nil_append,List.length_nil,Nat.zero_add]
 by_cases hn:0≤n∧n≤64
 ·obtain⟨m,rfl⟩:=Int.eq_ofNat_of_zero_le hn.1
  have hr:=C5 (B:=Ka) m (fun i=>((m:Int),Aew k i,(i:Int),())) (Aew k m,())
   (fun i hi=>by
    unfold Ka
    simp only[Ai,Aj,Ad]
    rw[Ao zq0,Ax,Av6,Al,w64 zq0]
    rfl)
   (by
    unfold Ka
    simp only[Ai,Aj,Ad]
    rw[Bb zq0,Aq])
  rw[Co zq5,Ao h,A8,if_pos hn]
  rw[show Az Ka ((m:Int),k,(0:Int),())=_ from hr,Al]
  rfl
 ·rw[if_neg hn,Ec zq5]
def Fc (p a b:List YB):List YB:=if inR (p.length:Int) 1 32=true∧a.length=12∧b.length=12 then Fq (a++b) p else []
theorem A7h (p a b:List YB):Ac4 (p,()) (a,()) (b,())=some (Fc p a b,()):=by
 unfold Ac4 Aob Fc Rt Ac3
 simp only[Ai,Aj,Ad,Aua,H2,Al,F9]
 cases inR (p.length:Int) 1 32 with
 |false=>rw[if_neg zq3];rfl
 |true=>
  simp only[Bool.not_true,Aq]
  by_cases h1:a.length=12
  ·rw[Co (by simp[h1])]
   by_cases h2:b.length=12
   ·rw[Co (by simp[h2]),Ie _ (by simp[cat];omega) zq3,Al,show cat [(a,()),(b,())]=a++b by simp[cat],Alr,if_pos ⟨trivial,h1,h2⟩];rfl
   ·rw[Ec zq1,if_neg (fun h=>h2 h.2.2)]
  ·rw[Ec zq1,if_neg (fun h=>h1 h.2.1)]
theorem A7i (p a b:List YB):Acu (p,()) (a,()) (b,())=some (Fc p a b,()):=by
 unfold Acu Ab4 Fc Ro Rd
 simp only[Ai,Aj,Ad,Ap,W4,Al,F9,List.nil_append,List.length_nil,Nat.zero_add]
 cases inR (p.length:Int) 1 32 with
 |false=>rw[if_neg zq3];rfl
 |true=>
  simp only[Bool.not_true,Aq]
  by_cases h1:a.length=12
  ·rw[Co (by simp[h1])]
   by_cases h2:b.length=12
   ·rw[Co (by simp[h2]),Ao zq0,A8,Ao zq0,A8,Als,if_pos ⟨trivial,h1,h2⟩];rfl
   ·rw[Ec zq1,if_neg (fun h=>h2 h.2.2)]
  ·rw[Ec zq1,if_neg (fun h=>h1 h.2.1)]
def Ep (r:List YB):List YB:=if r.length=32 then Hf r Azh else []
theorem Alw (r:List YB):(Ep r).length=32∨(Ep r).length=0:=by
 unfold Ep
 split
 ·exact Ah0 _ _
 ·right;rfl
theorem A44 (r:List YB):Zu (r,())=some (Ep r,()):=by
 unfold Zu Ali Ep
 simp only[Ai,Aj,Ad,A7f,Al]
 by_cases h:r.length=32
 ·rw[if_pos h,Co (by simp[h])]
 ·rw[if_neg h,Ec zq1]
theorem A45 (r:List YB):Za (r,())=some (Ep r,()):=by
 unfold Za Xj Ep
 simp only[Ai,Aj,Ad,A7g,Al]
 by_cases h:r.length=32
 ·rw[if_pos h,Co (by simp[h])]
 ·rw[if_neg h,Ec zq1]
def Hg (p a b:List YB) (n:Int):List YB:=if (Ep (Fc p a b)).length=0 then []else Z7 (Ep (Fc p a b)) n
theorem A46 (p a b:List YB) (n:YI):Zv (p,()) (a,()) (b,()) n=some (Hg p a b n.1,()):=by
 have hf:=Alw (Fc p a b)
 unfold Zv Alk Hg
 simp only[Ai,Aj,Ad,A7h,A44,Al]
 by_cases h:(Ep (Fc p a b)).length=0
 ·rw[if_pos h,Ec (by simp[h])]
 ·rw[if_neg h,Co (by simp;intro e;rw[e]at h;exact h rfl),Ba7 _ _ zq0];rfl
theorem A47 (p a b:List YB) (n:YI):Zb (p,()) (a,()) (b,()) n=some (Hg p a b n.1,()):=by
 have hf:=Alw (Fc p a b)
 unfold Zb Xk Hg
 simp only[Ai,Aj,Ad,A7i,A45,Al]
 by_cases h:(Ep (Fc p a b)).length=0
 ·rw[if_pos h,Ec (by simp[h]),List.eq_nil_of_length_eq_zero h]
 ·rw[if_neg h,Co (by simp;intro e;rw[e]at h;exact h rfl),Ba8 _ _ zq0];rfl
theorem Ah1:Wl=Wt:=by
 have hr:=C5 (B:=Ik) 32 (fun i=>((i:Int),(0:Int),([]:List YI),(-1:Int),List.replicate i ((0:Int),()),())) ((0:Int),([]:List YI),(-1:Int),List.replicate 32 ((0:Int),()),())
  (fun i hi=>by
   unfold Ik
   simp only[Ai,Ap,Ad]
   rw[Ao zq0,Ax,Ao zq1,A8,w64 zq0,List.replicate_succ']
   rfl)
  (by
   unfold Ik
   simp only[Ai,Ap,Ad]
   rw[Bb zq0,Aq])
 unfold Wl Afr Wt Asg
 simp only[Aj,Ad]
 rw[show Az Ik ((0:Int),(0:Int),([]:List YI),(-1:Int),([]:List YI),())=_ from hr,Al]
 rfl
def Z8:Bp:=((-1:Int),List.replicate 32 ((0:Int),()),())
theorem Ah2:Wt=some Z8:=rfl
theorem Ap7 (n:YI) (k:YBs): ∃r,Lf n k=some r∧Fe n k=some r∧Bm r≤64:=by
 unfold Lf All Fe R5
 simp only[Ai,Aj,Ad,Ap,B6,Bv,Al,Ah1,Ah2,List.nil_append,List.length_nil,Nat.zero_add]
 cases inR n.1 0 4294967295 with
 |false=>exact⟨_,rfl,rfl,by decide⟩
 |true=>
  simp only[Bool.not_true,Aq]
  by_cases h:k.1.length=32
  ·have q:((k.1.length:Int) != 32)=false:=by simp[h]
   rw[q,Cg k zq0,Ao zq0]
   simp only[Aq,Al,A8]
   refine⟨_,rfl,rfl,?_⟩
   simp only[Bm,Z8,List.length_replicate];omega
  ·have q:((k.1.length:Int) != 32)=true:=by simp;omega
   rw[q]
   exact⟨_,rfl,rfl,by decide⟩
end
end Go.Proofs.YtjlblagmjlmglaaGreat

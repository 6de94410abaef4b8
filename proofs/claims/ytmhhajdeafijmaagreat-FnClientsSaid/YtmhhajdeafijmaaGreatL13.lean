/-
  That the program and the reference answer alike, in plain terms, and that the laws answer true.
-/
import Derived.Test.YtmhhajdeafijmaaGreatL12
namespace Go.Proofs.YtmhhajdeafijmaaGreat
open Go.RowKit
set_option linter.unusedVariables false
set_option linter.unusedSimpArgs false
set_option maxRecDepth 100000
set_option maxHeartbeats 4000000
noncomputable section
def Jj (k l:List YB):List YB×Bool:=if l.length≤100∧k.length≤1048576 then(Fj k (l++[((1:Int),())]),true)else([],false)
theorem A5a (k l:List YB):Ag4 (k,()) (l,()) ((32:Int),())=some (((Jj k l).1,()),((Jj k l).2,())):=by
 unfold Ag4 Ag3 Jj
 simp only[Aj,Al,Af,Aq,Ch,An]
 rw[Cp zq4]
 by_cases hl:l.length≤100
 ·rw[Bg zq0,Aw]
  by_cases hk:k.length≤1048576
  ·rw[Bg zq0,Aw,if_pos ⟨hl,hk⟩]
   have h32:(Fj k (l++[((1:Int),())])).length=32:=Qu _ _ hk zq1
   have e1:Iq (k,l,(32:Int),[],[],(1:Int),())=some (.inl (k,l,(32:Int),Fj k (l++[((1:Int),())]),Fj k (l++[((1:Int),())]),(2:Int),())):=by
    unfold Iq
    simp only[Aj,Al,Af,Aq]
    rw[Ap zq3,Az,H8 _ (by simp[cat];omega) zq3,An,show cat [([],()),(l,()),([(IntKind.u8.wrap 1,())],())]=l++[((1:Int),())] by simp[cat];rfl,Al9,An,Ap (by dsimp only[List.length_nil];omega),Bd,List.nil_append]
    rfl
   have e2:Iq (k,l,(32:Int),Fj k (l++[((1:Int),())]),Fj k (l++[((1:Int),())]),(2:Int),())=some (.inr ((32:Int),Fj k (l++[((1:Int),())]),())):=by
    unfold Iq
    simp only[Aj,Al,Af,Aq]
    rw[Bg zq0,Aw]
   rw[Ci,e1]
   simp only
   rw[Ci,e2]
   simp only[An]
   rw[Ap zq0,Bd,Ap zq0,Bd,show(32:Int).toNat=32 from rfl,show(0:Int).toNat=0 from rfl,List.drop_zero,List.take_of_length_le zq0,C4 _ zq2,An]
  ·rw[Ap zq0,Az,if_neg (fun h=>hk h.2)]
 ·rw[Ap zq0,Az,if_neg (fun h=>hl h.1)]
theorem A5b (k l:List YB):Afr (k,()) (l,()) ((32:Int),())=some (((Jj k l).1,()),((Jj k l).2,())):=by
 unfold Afr Afq Jj
 simp only[Aj,Al,Af,Aq,Cz,An,List.nil_append,List.length_nil,Nat.zero_add]
 rw[Cp zq4]
 by_cases hl:l.length≤100
 ·rw[Bg zq0,Aw]
  by_cases hk:k.length≤1048576
  ·rw[Bg zq0,Aw,if_pos ⟨hl,hk⟩]
   have h32:(Fj k (l++[((1:Int),())])).length=32:=Qu _ _ hk zq1
   have e1:Ig (k,l,(32:Int),[],[],(1:Int),())=some (.inl (k,l,(32:Int),Fj k (l++[((1:Int),())]),Fj k (l++[((1:Int),())]),(2:Int),())):=by
    unfold Ig
    simp only[Aj,Al,Af,Aq,List.nil_append,List.length_nil,Nat.zero_add]
    rw[Ap zq3,Az,Ap zq0,Bd,Ap zq0,Bd,Ap zq1,Bd,show(IntKind.u8.wrap 1:Int)=1 from rfl,Ama,An,Ap zq2,Bd]
    rfl
   have e2:Ig (k,l,(32:Int),Fj k (l++[((1:Int),())]),Fj k (l++[((1:Int),())]),(2:Int),())=some (.inr ((32:Int),Fj k (l++[((1:Int),())]),())):=by
    unfold Ig
    simp only[Aj,Al,Af,Aq]
    rw[Bg zq0,Aw]
   rw[Ci,e1]
   simp only
   rw[Ci,e2]
   simp only[An]
   rw[Ap zq0,Bd,Ap zq0,Bd,show(32:Int).toNat=32 from rfl,show(0:Int).toNat=0 from rfl,List.drop_zero,List.take_of_length_le zq0,Ap zq0,Bd]
  ·rw[Ap zq0,Az,if_neg (fun h=>hk h.2)]
 ·rw[Ap zq0,Az,if_neg (fun h=>hl h.1)]
def Ha (k l:List YB):List YB:=(Jj k l).1
theorem Aii (k l:List YB):(Ha k l).length=32∨(Ha k l).length=0:=by
 unfold Ha Jj
 split
 ·exact Aic _ _
 ·right;rfl
theorem Aql (k:List YB) (b:ByteArray) (h:b.size≤4294967296):Jg (k,()) (b,())=some (Ha k (N9 b),()):=by
 unfold Jg Ag5
 simp only[Al,Af,Aq]
 rw[Ap h,Bd,A5a,An];rfl
theorem Aqm (k:List YB) (b:ByteArray) (h:b.size≤4294967296):Cn (k,()) (b,())=some (Ha k (N9 b),()):=by
 unfold Cn Afs
 simp only[Al,Af,Aq]
 rw[Ap h,Bd,A5b,An];rfl
def Amd:List YB:=N9 (Ck [114,101,107,101,121])
def Azo:List YB:=N9 (Ck [101,112,111,99,104])
theorem A7k (k:List YB):Jg (k,()) (Ck [114,101,107,101,121],())=some (Ha k Amd,()):=Aql k _ zq4
theorem Awc (k:List YB):Cn (k,()) (Ck [114,101,107,101,121],())=some (Ha k Amd,()):=Aqm k _ zq4
theorem A7l (k:List YB):Jg (k,()) (Ck [101,112,111,99,104],())=some (Ha k Azo,()):=Aql k _ zq4
theorem A7m (k:List YB):Cn (k,()) (Ck [101,112,111,99,104],())=some (Ha k Azo,()):=Aqm k _ zq4
def Ae1 (k:List YB):Nat→List YB
 |0=>k
 |n+1=>Ha (Ae1 k n) Amd
def Aab (k:List YB) (n:Int):List YB:=if 0≤n∧n≤64 then Ae1 k n.toNat else []
theorem Bbb (k:List YB) (n:Int) (h:k.length≤4294967296):Akx (k,()) (n,())=some (Aab k n,()):=by
 unfold Akx Akw Aab
 simp only[Aj,Al,Af,Ch,An]
 by_cases hn:0≤n∧n≤64
 ·obtain⟨m,rfl⟩:=Int.eq_ofNat_of_zero_le hn.1
  have hr:=Cv (B:=J8) m (fun i=>((m:Int),Ae1 k i,(i:Int),())) (Ae1 k m,())
   (fun i hi=>by
    unfold J8
    simp only[Aj,Al,Af]
    rw[Ap zq0,Az,A7k,An,w64 zq0]
    rfl)
   (by
    unfold J8
    simp only[Aj,Al,Af]
    rw[Bg zq0,Aw])
  rw[Cp zq5,C4 _ h,An,if_pos hn]
  rw[show A1 J8 ((m:Int),k,(0:Int),())=_ from hr,An]
  rfl
 ·rw[if_neg hn,D6 zq5]
theorem Bbc (k:List YB) (n:Int) (h:k.length≤4294967296):Ake (k,()) (n,())=some (Aab k n,()):=by
 unfold Ake Akd Aab
 simp only[Aj,Al,Af,Aq,Cz,An,List.nil_append,List.length_nil,Nat.zero_add]
 by_cases hn:0≤n∧n≤64
 ·obtain⟨m,rfl⟩:=Int.eq_ofNat_of_zero_le hn.1
  have hr:=Cv (B:=J5) m (fun i=>((m:Int),Ae1 k i,(i:Int),())) (Ae1 k m,())
   (fun i hi=>by
    unfold J5
    simp only[Aj,Al,Af]
    rw[Ap zq0,Az,Awc,An,w64 zq0]
    rfl)
   (by
    unfold J5
    simp only[Aj,Al,Af]
    rw[Bg zq0,Aw])
  rw[Cp zq5,Ap h,Bd,if_pos hn]
  rw[show A1 J5 ((m:Int),k,(0:Int),())=_ from hr,An]
  rfl
 ·rw[if_neg hn,D6 zq5]
def E7 (p a b:List YB):List YB:=if inR (p.length:Int) 1 32=true∧a.length=12∧b.length=12 then Fj (a++b) p else []
theorem A7n (p a b:List YB):Acq (p,()) (a,()) (b,())=some (E7 p a b,()):=by
 unfold Acq Acp E7 Rg Rf
 simp only[Aj,Al,Af,Auq,I4,An,Km]
 cases inR (p.length:Int) 1 32 with
 |false=>rw[if_neg zq3];rfl
 |true=>
  simp only[Bool.not_true,Aw]
  by_cases h1:a.length=12
  ·rw[Cp (by simp[h1])]
   by_cases h2:b.length=12
   ·rw[Cp (by simp[h2]),H8 _ (by simp[cat];omega) zq3,An,show cat [(a,()),(b,())]=a++b by simp[cat],Al9,if_pos ⟨trivial,h1,h2⟩];rfl
   ·rw[D6 zq1,if_neg (fun h=>h2 h.2.2)]
  ·rw[D6 zq1,if_neg (fun h=>h1 h.2.1)]
theorem A7o (p a b:List YB):Ab8 (p,()) (a,()) (b,())=some (E7 p a b,()):=by
 unfold Ab8 Ab7 E7 Q8 Q7
 simp only[Aj,Al,Af,Aq,Ane,An,Km,List.nil_append,List.length_nil,Nat.zero_add]
 cases inR (p.length:Int) 1 32 with
 |false=>rw[if_neg zq3];rfl
 |true=>
  simp only[Bool.not_true,Aw]
  by_cases h1:a.length=12
  ·rw[Cp (by simp[h1])]
   by_cases h2:b.length=12
   ·rw[Cp (by simp[h2]),Ap zq0,Bd,Ap zq0,Bd,Ama,if_pos ⟨trivial,h1,h2⟩];rfl
   ·rw[D6 zq1,if_neg (fun h=>h2 h.2.2)]
  ·rw[D6 zq1,if_neg (fun h=>h1 h.2.1)]
def El (r:List YB):List YB:=if r.length=32 then Ha r Azo else []
theorem Ame (r:List YB):(El r).length=32∨(El r).length=0:=by
 unfold El
 split
 ·exact Aii _ _
 ·right;rfl
theorem A5c (r:List YB):Zf (r,())=some (El r,()):=by
 unfold Zf Ze El
 simp only[Aj,Al,Af,A7l,An]
 by_cases h:r.length=32
 ·rw[if_pos h,Cp (by simp[h])]
 ·rw[if_neg h,D6 zq1]
theorem A5d (r:List YB):Xj (r,())=some (El r,()):=by
 unfold Xj Xi El
 simp only[Aj,Al,Af,A7m,An]
 by_cases h:r.length=32
 ·rw[if_pos h,Cp (by simp[h])]
 ·rw[if_neg h,D6 zq1]
def Hb (p a b:List YB) (n:Int):List YB:=if (El (E7 p a b)).length=0 then []else Aab (El (E7 p a b)) n
theorem A5e (p a b:List YB) (n:YI):Zh (p,()) (a,()) (b,()) n=some (Hb p a b n.1,()):=by
 have hf:=Ame (E7 p a b)
 unfold Zh Zg Hb
 simp only[Aj,Al,Af,A7n,A5c,An]
 by_cases h:(El (E7 p a b)).length=0
 ·rw[if_pos h,D6 (by simp[h])]
 ·rw[if_neg h,Cp (by simp;intro e;rw[e]at h;exact h rfl),Bbb _ _ zq0];rfl
theorem A5f (p a b:List YB) (n:YI):Xl (p,()) (a,()) (b,()) n=some (Hb p a b n.1,()):=by
 have hf:=Ame (E7 p a b)
 unfold Xl Xk Hb
 simp only[Aj,Al,Af,A7o,A5d,An]
 by_cases h:(El (E7 p a b)).length=0
 ·rw[if_pos h,D6 (by simp[h]),List.eq_nil_of_length_eq_zero h]
 ·rw[if_neg h,Cp (by simp;intro e;rw[e]at h;exact h rfl),Bbc _ _ zq0];rfl
theorem Aij:We=Wm:=by
 have hr:=Cv (B:=Ih) 32 (fun i=>((i:Int),(0:Int),([]:List YI),(-1:Int),List.replicate i ((0:Int),()),())) ((0:Int),([]:List YI),(-1:Int),List.replicate 32 ((0:Int),()),())
  (fun i hi=>by
   unfold Ih
   simp only[Aj,Aq,Af]
   rw[Ap zq0,Az,Ap zq1,Bd,w64 zq0,List.replicate_succ']
   rfl)
  (by
   unfold Ih
   simp only[Aj,Aq,Af]
   rw[Bg zq0,Aw])
 unfold We Aft Wm Ag6
 simp only[Al,Af]
 rw[show A1 Ih ((0:Int),(0:Int),([]:List YI),(-1:Int),([]:List YI),())=_ from hr,An]
 rfl
def Aac:Bs:=((-1:Int),List.replicate 32 ((0:Int),()),())
theorem Aik:Wm=some Aac:=rfl
theorem Aqn (n:YI) (k:YBs): ∃r,Kx n k=some r∧Dr n k=some r∧Bp r≤64:=by
 unfold Kx Aav Dr Rz
 simp only[Aj,Al,Af,Aq,Ch,Cz,An,Aij,Aik,List.nil_append,List.length_nil,Nat.zero_add]
 cases inR n.1 0 4294967295 with
 |false=>exact⟨_,rfl,rfl,by decide⟩
 |true=>
  simp only[Bool.not_true,Aw]
  by_cases h:k.1.length=32
  ·have q:((k.1.length:Int) != 32)=false:=by simp[h]
   rw[q,C4 k zq0,Ap zq0]
   simp only[Aw,An,Bd]
   refine⟨_,rfl,rfl,?_⟩
   simp only[Bp,Aac,List.length_replicate];omega
  ·have q:((k.1.length:Int) != 32)=true:=by simp;omega
   rw[q]
   exact⟨_,rfl,rfl,by decide⟩
end
end Go.Proofs.YtmhhajdeafijmaaGreat

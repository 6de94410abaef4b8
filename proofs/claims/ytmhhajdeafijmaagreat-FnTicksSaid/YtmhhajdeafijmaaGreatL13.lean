/-
  That the program and the reference answer alike, in plain terms, and that the laws answer true.
-/
import Derived.Test.YtmhhajdeafijmaaGreatL12
namespace Go.Proofs.YtmhhajdeafijmaaGreat
open Go.RowKit
set_option linter.unusedVariables false
set_option linter.unusedSimpArgs false
set_option maxRecDepth 100000
set_option maxHeartbeats 4000000
noncomputable section
def Jy (k l:List YB):List YB×Bool:=if l.length≤100∧k.length≤1048576 then(F0 k (l++[((1:Int),())]),true)else([],false)
theorem A4m (k l:List YB):Ah0 (k,()) (l,()) ((32:Int),())=some (((Jy k l).1,()),((Jy k l).2,())):=by
 unfold Ah0 Ahj Jy
 simp only[Ag,Ai,Ad,Ao,Br,Aj]
 rw[Cp zq4]
 by_cases hl:l.length≤100
 ·rw[A8 zq0,An]
  by_cases hk:k.length≤1048576
  ·rw[A8 zq0,An,if_pos ⟨hl,hk⟩]
   have h32:(F0 k (l++[((1:Int),())])).length=32:=Rg _ _ hk zq1
   have e1:I8 (k,l,(32:Int),[],[],(1:Int),())=some (.inl (k,l,(32:Int),F0 k (l++[((1:Int),())]),F0 k (l++[((1:Int),())]),(2:Int),())):=by
    unfold I8
    simp only[Ag,Ai,Ad,Ao]
    rw[Am zq3,Aw,Is _ (by simp[cat];omega) zq3,Aj,show cat [([],()),(l,()),([(IntKind.u8.wrap 1,())],())]=l++[((1:Int),())] by simp[cat];rfl,Alz,Aj,Am (by dsimp only[List.length_nil];omega),A5,List.nil_append]
    rfl
   have e2:I8 (k,l,(32:Int),F0 k (l++[((1:Int),())]),F0 k (l++[((1:Int),())]),(2:Int),())=some (.inr ((32:Int),F0 k (l++[((1:Int),())]),())):=by
    unfold I8
    simp only[Ag,Ai,Ad,Ao]
    rw[A8 zq0,An]
   rw[Ci,e1]
   simp only
   rw[Ci,e2]
   simp only[Aj]
   rw[Am zq0,A5,Am zq0,A5,show(32:Int).toNat=32 from rfl,show(0:Int).toNat=0 from rfl,List.drop_zero,List.take_of_length_le zq0,Cd _ zq2,Aj]
  ·rw[Am zq0,Aw,if_neg (fun h=>hk h.2)]
 ·rw[Am zq0,Aw,if_neg (fun h=>hl h.1)]
theorem A4n (k l:List YB):Aho (k,()) (l,()) ((32:Int),())=some (((Jy k l).1,()),((Jy k l).2,())):=by
 unfold Aho Aga Jy
 simp only[Ag,Ai,Ad,Ao,Cb,Aj,List.nil_append,List.length_nil,Nat.zero_add]
 rw[Cp zq4]
 by_cases hl:l.length≤100
 ·rw[A8 zq0,An]
  by_cases hk:k.length≤1048576
  ·rw[A8 zq0,An,if_pos ⟨hl,hk⟩]
   have h32:(F0 k (l++[((1:Int),())])).length=32:=Rg _ _ hk zq1
   have e1:Ix (k,l,(32:Int),[],[],(1:Int),())=some (.inl (k,l,(32:Int),F0 k (l++[((1:Int),())]),F0 k (l++[((1:Int),())]),(2:Int),())):=by
    unfold Ix
    simp only[Ag,Ai,Ad,Ao,List.nil_append,List.length_nil,Nat.zero_add]
    rw[Am zq3,Aw,Am zq0,A5,Am zq0,A5,Am zq1,A5,show(IntKind.u8.wrap 1:Int)=1 from rfl,Al0,Aj,Am zq2,A5]
    rfl
   have e2:Ix (k,l,(32:Int),F0 k (l++[((1:Int),())]),F0 k (l++[((1:Int),())]),(2:Int),())=some (.inr ((32:Int),F0 k (l++[((1:Int),())]),())):=by
    unfold Ix
    simp only[Ag,Ai,Ad,Ao]
    rw[A8 zq0,An]
   rw[Ci,e1]
   simp only
   rw[Ci,e2]
   simp only[Aj]
   rw[Am zq0,A5,Am zq0,A5,show(32:Int).toNat=32 from rfl,show(0:Int).toNat=0 from rfl,List.drop_zero,List.take_of_length_le zq0,Am zq0,A5]
  ·rw[Am zq0,Aw,if_neg (fun h=>hk h.2)]
 ·rw[Am zq0,Aw,if_neg (fun h=>hl h.1)]
def B0 (k l:List YB):List YB:=(Jy k l).1
theorem Aij (k l:List YB):(B0 k l).length=32∨(B0 k l).length=0:=by
 unfold B0 Jy
 split
 ·exact Aic _ _
 ·right;rfl
theorem Aqd (k:List YB) (b:ByteArray) (h:b.size≤4294967296):H8 (k,()) (b,())=some (B0 k (Pj b),()):=by
 unfold H8 Ahk
 simp only[Ai,Ad,Ao]
 rw[Am h,A5,A4m,Aj];rfl
theorem Aqe (k:List YB) (b:ByteArray) (h:b.size≤4294967296):Bt (k,()) (b,())=some (B0 k (Pj b),()):=by
 unfold Bt Agb
 simp only[Ai,Ad,Ao]
 rw[Am h,A5,A4n,Aj];rfl
def Ct:List YB:=Pj (Bq [114,101,107,101,121])
def Aza:List YB:=Pj (Bq [101,112,111,99,104])
theorem Avy (k:List YB):H8 (k,()) (Bq [114,101,107,101,121],())=some (B0 k Ct,()):=Aqd k _ zq4
theorem Abx (k:List YB):Bt (k,()) (Bq [114,101,107,101,121],())=some (B0 k Ct,()):=Aqe k _ zq4
theorem A6u (k:List YB):H8 (k,()) (Bq [101,112,111,99,104],())=some (B0 k Aza,()):=Aqd k _ zq4
theorem A6v (k:List YB):Bt (k,()) (Bq [101,112,111,99,104],())=some (B0 k Aza,()):=Aqe k _ zq4
def Afi (k:List YB):Nat→List YB
 |0=>k
 |n+1=>B0 (Afi k n) Ct
def Aav (k:List YB) (n:Int):List YB:=if 0≤n∧n≤64 then Afi k n.toNat else []
theorem Ban (k:List YB) (n:Int) (h:k.length≤4294967296):Alp (k,()) (n,())=some (Aav k n,()):=by
 unfold Alp Avs Aav
 simp only[Ag,Ai,Ad,Br,Aj]
 by_cases hn:0≤n∧n≤64
 ·obtain⟨m,rfl⟩:=Int.eq_ofNat_of_zero_le hn.1
  have hr:=Cq (B:=M4) m (fun i=>((m:Int),Afi k i,(i:Int),())) (Afi k m,())
   (fun i hi=>by
    unfold M4
    simp only[Ag,Ai,Ad]
    rw[Am zq0,Aw,Avy,Aj,w64 zq0]
    rfl)
   (by
    unfold M4
    simp only[Ag,Ai,Ad]
    rw[A8 zq0,An])
  rw[Cp zq5,Cd _ h,Aj,if_pos hn]
  rw[show Ay M4 ((m:Int),k,(0:Int),())=_ from hr,Aj]
  rfl
 ·rw[if_neg hn,Ej zq5]
theorem Bao (k:List YB) (n:Int) (h:k.length≤4294967296):Alk (k,()) (n,())=some (Aav k n,()):=by
 unfold Alk Akr Aav
 simp only[Ag,Ai,Ad,Ao,Cb,Aj,List.nil_append,List.length_nil,Nat.zero_add]
 by_cases hn:0≤n∧n≤64
 ·obtain⟨m,rfl⟩:=Int.eq_ofNat_of_zero_le hn.1
  have hr:=Cq (B:=Kh) m (fun i=>((m:Int),Afi k i,(i:Int),())) (Afi k m,())
   (fun i hi=>by
    unfold Kh
    simp only[Ag,Ai,Ad]
    rw[Am zq0,Aw,Abx,Aj,w64 zq0]
    rfl)
   (by
    unfold Kh
    simp only[Ag,Ai,Ad]
    rw[A8 zq0,An])
  rw[Cp zq5,Am h,A5,if_pos hn]
  rw[show Ay Kh ((m:Int),k,(0:Int),())=_ from hr,Aj]
  rfl
 ·rw[if_neg hn,Ej zq5]
def Fl (p a b:List YB):List YB:=if inR (p.length:Int) 1 32=true∧a.length=12∧b.length=12 then F0 (a++b) p else []
theorem A6w (p a b:List YB):Adr (p,()) (a,()) (b,())=some (Fl p a b,()):=by
 unfold Adr Aoq Fl Sb Adq
 simp only[Ag,Ai,Ad,Aub,Jj,Aj,Gx]
 cases inR (p.length:Int) 1 32 with
 |false=>rw[if_neg zq3];rfl
 |true=>
  simp only[Bool.not_true,An]
  by_cases h1:a.length=12
  ·rw[Cp (by simp[h1])]
   by_cases h2:b.length=12
   ·rw[Cp (by simp[h2]),Is _ (by simp[cat];omega) zq3,Aj,show cat [(a,()),(b,())]=a++b by simp[cat],Alz,if_pos ⟨trivial,h1,h2⟩];rfl
   ·rw[Ej zq1,if_neg (fun h=>h2 h.2.2)]
  ·rw[Ej zq1,if_neg (fun h=>h1 h.2.1)]
theorem A6x (p a b:List YB):Adi (p,()) (a,()) (b,())=some (Fl p a b,()):=by
 unfold Adi Acw Fl R9 Rz
 simp only[Ag,Ai,Ad,Ao,Afh,Aj,Gx,List.nil_append,List.length_nil,Nat.zero_add]
 cases inR (p.length:Int) 1 32 with
 |false=>rw[if_neg zq3];rfl
 |true=>
  simp only[Bool.not_true,An]
  by_cases h1:a.length=12
  ·rw[Cp (by simp[h1])]
   by_cases h2:b.length=12
   ·rw[Cp (by simp[h2]),Am zq0,A5,Am zq0,A5,Al0,if_pos ⟨trivial,h1,h2⟩];rfl
   ·rw[Ej zq1,if_neg (fun h=>h2 h.2.2)]
  ·rw[Ej zq1,if_neg (fun h=>h1 h.2.1)]
def Eu (r:List YB):List YB:=if r.length=32 then B0 r Aza else []
theorem Al3 (r:List YB):(Eu r).length=32∨(Eu r).length=0:=by
 unfold Eu
 split
 ·exact Aij _ _
 ·right;rfl
theorem A4o (r:List YB):Aam (r,())=some (Eu r,()):=by
 unfold Aam Alo Eu
 simp only[Ag,Ai,Ad,A6u,Aj]
 by_cases h:r.length=32
 ·rw[if_pos h,Cp (by simp[h])]
 ·rw[if_neg h,Ej zq1]
theorem A4p (r:List YB):Z1 (r,())=some (Eu r,()):=by
 unfold Z1 X7 Eu
 simp only[Ag,Ai,Ad,A6v,Aj]
 by_cases h:r.length=32
 ·rw[if_pos h,Cp (by simp[h])]
 ·rw[if_neg h,Ej zq1]
def Ei (p a b:List YB) (n:Int):List YB:=if (Eu (Fl p a b)).length=0 then []else Aav (Eu (Fl p a b)) n
theorem A4q (p a b:List YB) (n:YI):Aan (p,()) (a,()) (b,()) n=some (Ei p a b n.1,()):=by
 have hf:=Al3 (Fl p a b)
 unfold Aan Alq Ei
 simp only[Ag,Ai,Ad,A6w,A4o,Aj]
 by_cases h:(Eu (Fl p a b)).length=0
 ·rw[if_pos h,Ej (by simp[h])]
 ·rw[if_neg h,Cp (by simp;intro e;rw[e]at h;exact h rfl),Ban _ _ zq0];rfl
theorem A4r (p a b:List YB) (n:YI):Z2 (p,()) (a,()) (b,()) n=some (Ei p a b n.1,()):=by
 have hf:=Al3 (Fl p a b)
 unfold Z2 X8 Ei
 simp only[Ag,Ai,Ad,A6x,A4p,Aj]
 by_cases h:(Eu (Fl p a b)).length=0
 ·rw[if_pos h,Ej (by simp[h]),List.eq_nil_of_length_eq_zero h]
 ·rw[if_neg h,Cp (by simp;intro e;rw[e]at h;exact h rfl),Bao _ _ zq0];rfl
theorem Aaw:W8=Xf:=by
 have hr:=Cq (B:=Iy) 32 (fun i=>((i:Int),(0:Int),([]:List YI),(-1:Int),List.replicate i ((0:Int),()),())) ((0:Int),([]:List YI),(-1:Int),List.replicate 32 ((0:Int),()),())
  (fun i hi=>by
   unfold Iy
   simp only[Ag,Ao,Ad]
   rw[Am zq0,Aw,Am zq1,A5,w64 zq0,List.replicate_succ']
   rfl)
  (by
   unfold Iy
   simp only[Ag,Ao,Ad]
   rw[A8 zq0,An])
 unfold W8 Agd Xf Ash
 simp only[Ai,Ad]
 rw[show Ay Iy ((0:Int),(0:Int),([]:List YI),(-1:Int),([]:List YI),())=_ from hr,Aj]
 rfl
def Tc:Bn:=((-1:Int),List.replicate 32 ((0:Int),()),())
theorem Aax:Xf=some Tc:=rfl
theorem Aqf (n:YI) (k:YBs): ∃r,Lk n k=some r∧Ey n k=some r∧Bj r≤64:=by
 unfold Lk Alr Ey Sr
 simp only[Ag,Ai,Ad,Ao,Br,Cb,Aj,Aaw,Aax,List.nil_append,List.length_nil,Nat.zero_add]
 cases inR n.1 0 4294967295 with
 |false=>exact⟨_,rfl,rfl,by decide⟩
 |true=>
  simp only[Bool.not_true,An]
  by_cases h:k.1.length=32
  ·have q:((k.1.length:Int) != 32)=false:=by simp[h]
   rw[q,Cd k zq0,Am zq0]
   simp only[An,Aj,A5]
   refine⟨_,rfl,rfl,?_⟩
   simp only[Bj,Tc,List.length_replicate];omega
  ·have q:((k.1.length:Int) != 32)=true:=by simp;omega
   rw[q]
   exact⟨_,rfl,rfl,by decide⟩
end
end Go.Proofs.YtmhhajdeafijmaaGreat

/-
  That the program and the reference answer alike, in plain terms, and that the laws answer true.
-/
import Derived.Test.YtfljmgnghlpapaaGreatL12
namespace Go.Proofs.YtfljmgnghlpapaaGreat
open Go.RowKit
set_option linter.unusedVariables false
set_option linter.unusedSimpArgs false
set_option maxRecDepth 100000
set_option maxHeartbeats 4000000
noncomputable section
theorem Ah5 {E:Type} {f:E→Nat}: ∀ {l:List E} {i:Nat} {x:E},Co f (l.set i x)≤Co f l+f x
 |[],_,_=>by simp[Co]
 |a::r,0,x=>by simp only[List.set_cons_zero,Co];omega
 |a::r,i+1,x=>by have:=Ah5 (f:=f) (l:=r) (i:=i) (x:=x);simp only[List.set_cons_succ,Co];omega
theorem A8f (t:Bp) (s:Ad) (h:Bg t+Aw s≤1073741824): ∃r b,S7 t s=some (r,(b,()))∧Ny t s=some (r,(b,()))∧Bg r≤Bg t+Aw s+1:=by
 unfold S7 Ac8 Ny Ab1
 simp only[Ac,Ae,Ab,Al]
 have hl:t.2.1.length≤Bg t:=by simp only[Bg];omega
 rw[T1 t zq0,Ayf t zq0,Vz t zq0,A6k t zq0,M4 s zq0,Amu s zq0,Oy s zq0,Ahz s zq0,Ah0 _ _ zq0,A15 _ _ zq0,Tw _ zq0,Bay _ zq0]
 simp only[Ai]
 cases Ev t with
 |false=>exact⟨t,1,rfl,rfl,by omega⟩
 |true=>
  cases Cs s with
  |false=>exact⟨t,1,rfl,rfl,by omega⟩
  |true=>
   simp only[Bool.not_true,Au]
   cases s.2.2.2.2.2.2.2.2.2.2.2.2.2.2.2.2.2.2.2.2.2.2.2.1 with
   |true=>exact⟨t,1,rfl,rfl,by omega⟩
   |false=>
    simp only[Au]
    cases decide (Es t.2.1 s.2.2.1≥0)with
    |true=>exact⟨t,3,rfl,rfl,by omega⟩
    |false=>
     simp only[Au]
     cases Ga t==t.1 with
     |true=>exact⟨t,7,rfl,rfl,by omega⟩
     |false=>
      simp only[Au]
      cases (t.2.1.length:Int)==12 with
      |true=>exact⟨t,7,rfl,rfl,by omega⟩
      |false=>
       simp only[Au]
       rw[An zq1,A8]
       refine⟨_,0,rfl,rfl,?_⟩
       simp only[Bg,Are,Co,List.length_append,List.length_cons,List.length_nil]
       omega
def J6 (k l:List YB):List YB×Bool:=if l.length≤100∧k.length≤1048576 then(Fd k (l++[((1:Int),())]),true)else([],false)
theorem A8g (k l:List YB):Aho (k,()) (l,()) ((32:Int),())=some (((J6 k l).1,()),((J6 k l).2,())):=by
 unfold Aho Ags J6
 simp only[Ac,Ae,Ab,Al,Bw,Ai]
 rw[Em zq4]
 by_cases hl:l.length≤100
 ·rw[Bj zq0,Au]
  by_cases hk:k.length≤1048576
  ·rw[Bj zq0,Au,if_pos ⟨hl,hk⟩]
   have h32:(Fd k (l++[((1:Int),())])).length=32:=Rz _ _ hk zq1
   have e1:Jj (k,l,(32:Int),[],[],(1:Int),())=some (.inl (k,l,(32:Int),Fd k (l++[((1:Int),())]),Fd k (l++[((1:Int),())]),(2:Int),())):=by
    unfold Jj
    simp only[Ac,Ae,Ab,Al]
    rw[An zq3,A4,Rx _ (by simp[cat];omega) zq3,Ai,show cat [([],()),(l,()),([(IntKind.u8.wrap 1,())],())]=l++[((1:Int),())] by simp[cat];rfl,A2f,Ai,An (by dsimp only[List.length_nil];omega),A8,List.nil_append]
    rfl
   have e2:Jj (k,l,(32:Int),Fd k (l++[((1:Int),())]),Fd k (l++[((1:Int),())]),(2:Int),())=some (.inr ((32:Int),Fd k (l++[((1:Int),())]),())):=by
    unfold Jj
    simp only[Ac,Ae,Ab,Al]
    rw[Bj zq0,Au]
   rw[Db,e1]
   simp only
   rw[Db,e2]
   simp only[Ai]
   rw[An zq0,A8,An zq0,A8,show(32:Int).toNat=32 from rfl,show(0:Int).toNat=0 from rfl,List.drop_zero,List.take_of_length_le zq0,Dv _ zq2,Ai]
  ·rw[An zq0,A4,if_neg (fun h=>hk h.2)]
 ·rw[An zq0,A4,if_neg (fun h=>hl h.1)]
theorem A8h (k l:List YB):Ag6 (k,()) (l,()) ((32:Int),())=some (((J6 k l).1,()),((J6 k l).2,())):=by
 unfold Ag6 Ae5 J6
 simp only[Ac,Ae,Ab,Al,Df,Ai,List.nil_append,List.length_nil,Nat.zero_add]
 rw[Em zq4]
 by_cases hl:l.length≤100
 ·rw[Bj zq0,Au]
  by_cases hk:k.length≤1048576
  ·rw[Bj zq0,Au,if_pos ⟨hl,hk⟩]
   have h32:(Fd k (l++[((1:Int),())])).length=32:=Rz _ _ hk zq1
   have e1:I9 (k,l,(32:Int),[],[],(1:Int),())=some (.inl (k,l,(32:Int),Fd k (l++[((1:Int),())]),Fd k (l++[((1:Int),())]),(2:Int),())):=by
    unfold I9
    simp only[Ac,Ae,Ab,Al,List.nil_append,List.length_nil,Nat.zero_add]
    rw[An zq3,A4,An zq0,A8,An zq0,A8,An zq1,A8,show(IntKind.u8.wrap 1:Int)=1 from rfl,Amt,Ai,An zq2,A8]
    rfl
   have e2:I9 (k,l,(32:Int),Fd k (l++[((1:Int),())]),Fd k (l++[((1:Int),())]),(2:Int),())=some (.inr ((32:Int),Fd k (l++[((1:Int),())]),())):=by
    unfold I9
    simp only[Ac,Ae,Ab,Al]
    rw[Bj zq0,Au]
   rw[Db,e1]
   simp only
   rw[Db,e2]
   simp only[Ai]
   rw[An zq0,A8,An zq0,A8,show(32:Int).toNat=32 from rfl,show(0:Int).toNat=0 from rfl,List.drop_zero,List.take_of_length_le zq0,An zq0,A8]
  ·rw[An zq0,A4,if_neg (fun h=>hk h.2)]
 ·rw[An zq0,A4,if_neg (fun h=>hl h.1)]
def Jl (k l:List YB):List YB:=(J6 k l).1
theorem Ah6 (k l:List YB):(Jl k l).length=32∨(Jl k l).length=0:=by
 unfold Jl J6
 split
 ·exact Ard _ _
 ·right;rfl
theorem Bdf (k:List YB) (b:ByteArray) (h:b.size≤4294967296):Ahp (k,()) (b,())=some (Jl k (Eg b),()):=by
 unfold Ahp Agt
 simp only[Ae,Ab,Al]
 rw[An h,A8,A8g,Ai];rfl
theorem Ah7 (k:List YB) (b:ByteArray) (h:b.size≤4294967296):C0 (k,()) (b,())=some (Jl k (Eg b),()):=by
 unfold C0 Ae6
 simp only[Ae,Ab,Al]
 rw[An h,A8,A8h,Ai];rfl
def At9:List YB:=Eg (Bq [114,101,107,101,121])
def Ba6:List YB:=Eg (Bq [101,112,111,99,104])
theorem Ayg (k:List YB):C0 (k,()) (Bq [114,101,107,101,121],())=some (Jl k At9,()):=Ah7 k _ zq4
theorem Ba7 (k:List YB):C0 (k,()) (Bq [101,112,111,99,104],())=some (Jl k Ba6,()):=Ah7 k _ zq4
def Aua (k:List YB):Nat→List YB
 |0=>k
 |n+1=>Jl (Aua k n) At9
def A2k (k:List YB) (n:Int):List YB:=if 0≤n∧n≤64 then Aua k n.toNat else []
theorem Bfg (k:List YB) (n:Int) (h:k.length≤4294967296):Amc (k,()) (n,())=some (A2k k n,()):=by
 unfold Amc Akn A2k
 simp only[Ac,Ae,Ab,Al,Df,Ai,List.nil_append,List.length_nil,Nat.zero_add]
 by_cases hn:0≤n∧n≤64
 ·obtain⟨m,rfl⟩:=Int.eq_ofNat_of_zero_le hn.1
  have hr:=B8 (B:=Kq) m (fun i=>((m:Int),Aua k i,(i:Int),())) (Aua k m,())
   (fun i hi=>by
    unfold Kq
    simp only[Ac,Ae,Ab]
    rw[An zq0,A4,Ayg,Ai,w64 zq0]
    rfl)
   (by
    unfold Kq
    simp only[Ac,Ae,Ab]
    rw[Bj zq0,Au])
  rw[Em (by simp[inR];omega),An h,A8,if_pos hn]
  rw[show As Kq ((m:Int),k,(0:Int),())=_ from hr,Ai]
  rfl
 ·rw[if_neg hn,Fu (by simp[inR];omega)]
def V2 (p a b:List YB):List YB:=if inR (p.length:Int) 1 32=true∧a.length=12∧b.length=12 then Fd (a++b) p else []
theorem Ba8 (p a b:List YB):Acx (p,()) (a,()) (b,())=some (V2 p a b,()):=by
 unfold Acx Abi V2 Sw Sf
 simp only[Ac,Ae,Ab,Al,An1,Ai,Qt,List.nil_append,List.length_nil,Nat.zero_add]
 cases inR (p.length:Int) 1 32 with
 |false=>rw[if_neg zq3];rfl
 |true=>
  simp only[Bool.not_true,Au]
  by_cases h1:a.length=12
  ·rw[Em (by simp[h1])]
   by_cases h2:b.length=12
   ·rw[Em (by simp[h2]),An zq0,A8,An zq0,A8,Amt,if_pos ⟨trivial,h1,h2⟩];rfl
   ·rw[Fu zq1,if_neg (fun h=>h2 h.2.2)]
  ·rw[Fu zq1,if_neg (fun h=>h1 h.2.1)]
def Mb (r:List YB):List YB:=if r.length=32 then Jl r Ba6 else []
theorem A2l (r:List YB):(Mb r).length=32∨(Mb r).length=0:=by
 unfold Mb
 split
 ·exact Ah6 _ _
 ·right;rfl
theorem A8i (r:List YB):Xi (r,())=some (Mb r,()):=by
 unfold Xi Wh Mb
 simp only[Ac,Ae,Ab,Ba7,Ai]
 by_cases h:r.length=32
 ·rw[if_pos h,Em (by simp[h])]
 ·rw[if_neg h,Fu zq1]
def A2m (p a b:List YB) (n:Int):List YB:=if (Mb (V2 p a b)).length=0 then []else A2k (Mb (V2 p a b)) n
theorem A8j (p a b:List YB) (n:YI):Xj (p,()) (a,()) (b,()) n=some (A2m p a b n.1,()):=by
 have hf:=A2l (V2 p a b)
 unfold Xj Wi A2m
 simp only[Ac,Ae,Ab,Ba8,A8i,Ai]
 by_cases h:(Mb (V2 p a b)).length=0
 ·rw[if_pos h,Fu (by simp[h]),List.eq_nil_of_length_eq_zero h]
 ·rw[if_neg h,Em (by simp;intro e;rw[e]at h;exact h rfl),Bfg _ _ zq0];rfl
theorem A2n:Vj=Vr:=by
 have hr:=B8 (B:=Ja) 32 (fun i=>((i:Int),(0:Int),([]:List YI),(-1:Int),List.replicate i ((0:Int),()),())) ((0:Int),([]:List YI),(-1:Int),List.replicate 32 ((0:Int),()),())
  (fun i hi=>by
   unfold Ja
   simp only[Ac,Al,Ab]
   rw[An zq0,A4,An zq1,A8,w64 zq0,List.replicate_succ']
   rfl)
  (by
   unfold Ja
   simp only[Ac,Al,Ab]
   rw[Bj zq0,Au])
 unfold Vj Afk Vr At0
 simp only[Ae,Ab]
 rw[show As Ja ((0:Int),(0:Int),([]:List YI),(-1:Int),([]:List YI),())=_ from hr,Ai]
 rfl
def Amv:Cj:=((-1:Int),List.replicate 32 ((0:Int),()),())
theorem A2o:Vr=some Amv:=rfl
theorem Bdg (n:YI) (k:YBs): ∃r,Ax4 n k=some r∧Ly n k=some r∧En r≤64:=by
 unfold Ax4 Ax3 Ly Akp
 simp only[Ac,Ae,Ab,Al,Bw,Df,Ai,A2n,A2o,List.nil_append,List.length_nil,Nat.zero_add]
 cases inR n.1 0 4294967295 with
 |false=>exact⟨_,rfl,rfl,by decide⟩
 |true=>
  simp only[Bool.not_true,Au]
  by_cases h:k.1.length=32
  ·have q:((k.1.length:Int) != 32)=false:=by simp[h]
   rw[q,Dv k zq0,An zq0]
   simp only[Au,Ai,A8]
   refine⟨_,rfl,rfl,?_⟩
   simp only[En,Amv,List.length_replicate];omega
  ·have q:((k.1.length:Int) != 32)=true:=by simp;omega
   rw[q]
   exact⟨_,rfl,rfl,by decide⟩
end
end Go.Proofs.YtfljmgnghlpapaaGreat

/-
  That the program and the reference answer alike, in plain terms, and that the laws answer true.
-/
import Derived.Test.YtmhhajdeafijmaaGreatL12
namespace Go.Proofs.YtmhhajdeafijmaaGreat
open Go.RowKit
set_option linter.unusedVariables false
set_option linter.unusedSimpArgs false
set_option maxRecDepth 100000
set_option maxHeartbeats 4000000
noncomputable section
def Kj (k l:List YB):List YB×Bool:=if l.length≤100∧k.length≤1048576 then(F3 k (l++[((1:Int),())]),true)else([],false)
theorem A01 (k l:List YB):Ad6 (k,()) (l,()) ((32:Int),())=some (((Kj k l).1,()),((Kj k l).2,())):=by
 unfold Ad6 Ad5 Kj
 simp only[Ae,Ai,Ac,Aj,Ch,Ag]
 rw[C4 zq4]
 by_cases hl:l.length≤100
 ·rw[Bh zq0,Am]
  by_cases hk:k.length≤1048576
  ·rw[Bh zq0,Am,if_pos ⟨hl,hk⟩]
   have h32:(F3 k (l++[((1:Int),())])).length=32:=Va _ _ hk zq1
   have e1:Jl (k,l,(32:Int),[],[],(1:Int),())=some (.inl (k,l,(32:Int),F3 k (l++[((1:Int),())]),F3 k (l++[((1:Int),())]),(2:Int),())):=by
    unfold Jl
    simp only[Ae,Ai,Ac,Aj]
    rw[Ak zq3,A0,Kh _ (by simp[cat];omega) zq3,Ag,show cat [([],()),(l,()),([(IntKind.u8.wrap 1,())],())]=l++[((1:Int),())] by simp[cat];rfl,Aoh,Ag,Ak (by dsimp only[List.length_nil];omega),A8,List.nil_append]
    rfl
   have e2:Jl (k,l,(32:Int),F3 k (l++[((1:Int),())]),F3 k (l++[((1:Int),())]),(2:Int),())=some (.inr ((32:Int),F3 k (l++[((1:Int),())]),())):=by
    unfold Jl
    simp only[Ae,Ai,Ac,Aj]
    rw[Bh zq0,Am]
   rw[C7,e1]
   simp only
   rw[C7,e2]
   simp only[Ag]
   rw[Ak zq0,A8,Ak zq0,A8,show(32:Int).toNat=32 from rfl,show(0:Int).toNat=0 from rfl,List.drop_zero,List.take_of_length_le zq0,Cu _ zq2,Ag]
  ·rw[Ak zq0,A0,if_neg (fun h=>hk h.2)]
 ·rw[Ak zq0,A0,if_neg (fun h=>hl h.1)]
theorem A02 (k l:List YB):Acr (k,()) (l,()) ((32:Int),())=some (((Kj k l).1,()),((Kj k l).2,())):=by
 unfold Acr Acq Kj
 simp only[Ae,Ai,Ac,Aj,Cw,Ag,List.nil_append,List.length_nil,Nat.zero_add]
 rw[C4 zq4]
 by_cases hl:l.length≤100
 ·rw[Bh zq0,Am]
  by_cases hk:k.length≤1048576
  ·rw[Bh zq0,Am,if_pos ⟨hl,hk⟩]
   have h32:(F3 k (l++[((1:Int),())])).length=32:=Va _ _ hk zq1
   have e1:I9 (k,l,(32:Int),[],[],(1:Int),())=some (.inl (k,l,(32:Int),F3 k (l++[((1:Int),())]),F3 k (l++[((1:Int),())]),(2:Int),())):=by
    unfold I9
    simp only[Ae,Ai,Ac,Aj,List.nil_append,List.length_nil,Nat.zero_add]
    rw[Ak zq3,A0,Ak zq0,A8,Ak zq0,A8,Ak zq1,A8,show(IntKind.u8.wrap 1:Int)=1 from rfl,Aib,Ag,Ak zq2,A8]
    rfl
   have e2:I9 (k,l,(32:Int),F3 k (l++[((1:Int),())]),F3 k (l++[((1:Int),())]),(2:Int),())=some (.inr ((32:Int),F3 k (l++[((1:Int),())]),())):=by
    unfold I9
    simp only[Ae,Ai,Ac,Aj]
    rw[Bh zq0,Am]
   rw[C7,e1]
   simp only
   rw[C7,e2]
   simp only[Ag]
   rw[Ak zq0,A8,Ak zq0,A8,show(32:Int).toNat=32 from rfl,show(0:Int).toNat=0 from rfl,List.drop_zero,List.take_of_length_le zq0,Ak zq0,A8]
  ·rw[Ak zq0,A0,if_neg (fun h=>hk h.2)]
 ·rw[Ak zq0,A0,if_neg (fun h=>hl h.1)]
def E6 (k l:List YB):List YB:=(Kj k l).1
theorem Aol (k l:List YB):(E6 k l).length=32∨(E6 k l).length=0:=by
 unfold E6 Kj
 split
 ·exact Aez _ _
 ·right;rfl
theorem Au9 (k:List YB) (b:ByteArray) (h:b.size≤4294967296):Uu (k,()) (b,())=some (E6 k (Po b),()):=by
 unfold Uu Ad7
 simp only[Ai,Ac,Aj]
 rw[Ak h,A8,A01,Ag];rfl
theorem Al5 (k:List YB) (b:ByteArray) (h:b.size≤4294967296):Ct (k,()) (b,())=some (E6 k (Po b),()):=by
 unfold Ct Acs
 simp only[Ai,Ac,Aj]
 rw[Ak h,A8,A02,Ag];rfl
def K0:List YB:=Po (C6 [114,101,107,101,121])
def A24:List YB:=Po (C6 [101,112,111,99,104])
theorem A25 (k:List YB):Uu (k,()) (C6 [114,101,107,101,121],())=some (E6 k K0,()):=Au9 k _ zq4
theorem Zd (k:List YB):Ct (k,()) (C6 [114,101,107,101,121],())=some (E6 k K0,()):=Al5 k _ zq4
theorem A26 (k:List YB):Ct (k,()) (C6 [101,112,111,99,104],())=some (E6 k A24,()):=Al5 k _ zq4
def Aom (k:List YB):Nat→List YB
 |0=>k
 |n+1=>E6 (Aom k n) K0
def Aon (k:List YB) (n:Int):List YB:=if 0≤n∧n≤64 then Aom k n.toNat else []
theorem A6u (k:List YB) (n:Int) (h:k.length≤4294967296):Agw (k,()) (n,())=some (Aon k n,()):=by
 unfold Agw Agv Aon
 simp only[Ae,Ai,Ac,Aj,Cw,Ag,List.nil_append,List.length_nil,Nat.zero_add]
 by_cases hn:0≤n∧n≤64
 ·obtain⟨m,rfl⟩:=Int.eq_ofNat_of_zero_le hn.1
  have hr:=Cn (B:=K6) m (fun i=>((m:Int),Aom k i,(i:Int),())) (Aom k m,())
   (fun i hi=>by
    unfold K6
    simp only[Ae,Ai,Ac]
    rw[Ak zq0,A0,Zd,Ag,w64 zq0]
    rfl)
   (by
    unfold K6
    simp only[Ae,Ai,Ac]
    rw[Bh zq0,Am])
  rw[C4 (by simp[inR];omega),Ak h,A8,if_pos hn]
  rw[show Ay K6 ((m:Int),k,(0:Int),())=_ from hr,Ag]
  rfl
 ·rw[if_neg hn,Fg (by simp[inR];omega)]
def M4 (p a b:List YB):List YB:=if inR (p.length:Int) 1 32=true∧a.length=12∧b.length=12 then F3 (a++b) p else []
theorem A27 (p a b:List YB):Zz (p,()) (a,()) (b,())=some (M4 p a b,()):=by
 unfold Zz Zy M4 Sj Si
 simp only[Ae,Ai,Ac,Aj,Ajg,Ag,M0,List.nil_append,List.length_nil,Nat.zero_add]
 cases inR (p.length:Int) 1 32 with
 |false=>rw[if_neg zq3];rfl
 |true=>
  simp only[Bool.not_true,Am]
  by_cases h1:a.length=12
  ·rw[C4 (by simp[h1])]
   by_cases h2:b.length=12
   ·rw[C4 (by simp[h2]),Ak zq0,A8,Ak zq0,A8,Aib,if_pos ⟨trivial,h1,h2⟩];rfl
   ·rw[Fg zq1,if_neg (fun h=>h2 h.2.2)]
  ·rw[Fg zq1,if_neg (fun h=>h1 h.2.1)]
def I7 (r:List YB):List YB:=if r.length=32 then E6 r A24 else []
theorem Ava (r:List YB):(I7 r).length=32∨(I7 r).length=0:=by
 unfold I7
 split
 ·exact Aol _ _
 ·right;rfl
theorem A03 (r:List YB):Vo (r,())=some (I7 r,()):=by
 unfold Vo Vn I7
 simp only[Ae,Ai,Ac,A26,Ag]
 by_cases h:r.length=32
 ·rw[if_pos h,C4 (by simp[h])]
 ·rw[if_neg h,Fg zq1]
def W1 (p a b:List YB) (n:Int):List YB:=if (I7 (M4 p a b)).length=0 then []else Aon (I7 (M4 p a b)) n
theorem Aoo (p a b:List YB) (n:YI):Vq (p,()) (a,()) (b,()) n=some (W1 p a b n.1,()):=by
 have hf:=Ava (M4 p a b)
 unfold Vq Vp W1
 simp only[Ae,Ai,Ac,A27,A03,Ag]
 by_cases h:(I7 (M4 p a b)).length=0
 ·rw[if_pos h,Fg (by simp[h]),List.eq_nil_of_length_eq_zero h]
 ·rw[if_neg h,C4 (by simp;intro e;rw[e]at h;exact h rfl),A6u _ _ zq0];rfl
theorem W2:Um=Uq:=by
 have hr:=Cn (B:=Jb) 32 (fun i=>((i:Int),(0:Int),([]:List YI),(-1:Int),List.replicate i ((0:Int),()),())) ((0:Int),([]:List YI),(-1:Int),List.replicate 32 ((0:Int),()),())
  (fun i hi=>by
   unfold Jb
   simp only[Ae,Aj,Ac]
   rw[Ak zq0,A0,Ak zq1,A8,w64 zq0,List.replicate_succ']
   rfl)
  (by
   unfold Jb
   simp only[Ae,Aj,Ac]
   rw[Bh zq0,Am])
 unfold Um Acw Uq Adp
 simp only[Ai,Ac]
 rw[show Ay Jb ((0:Int),(0:Int),([]:List YI),(-1:Int),([]:List YI),())=_ from hr,Ag]
 rfl
def Tl:B5:=((-1:Int),List.replicate 32 ((0:Int),()),())
theorem W3:Uq=some Tl:=rfl
theorem Al6 (n:YI) (k:YBs): ∃r,Ls n k=some r∧Ev n k=some r∧Bx r≤64:=by
 unfold Ls Xk Ev S7
 simp only[Ae,Ai,Ac,Aj,Ch,Cw,Ag,W2,W3,List.nil_append,List.length_nil,Nat.zero_add]
 cases inR n.1 0 4294967295 with
 |false=>exact⟨_,rfl,rfl,by decide⟩
 |true=>
  simp only[Bool.not_true,Am]
  by_cases h:k.1.length=32
  ·have q:((k.1.length:Int) != 32)=false:=by simp[h]
   rw[q,Cu k zq0,Ak zq0]
   simp only[Am,Ag,A8]
   refine⟨_,rfl,rfl,?_⟩
   simp only[Bx,Tl,List.length_replicate];omega
  ·have q:((k.1.length:Int) != 32)=true:=by simp;omega
   rw[q]
   exact⟨_,rfl,rfl,by decide⟩
end
end Go.Proofs.YtmhhajdeafijmaaGreat

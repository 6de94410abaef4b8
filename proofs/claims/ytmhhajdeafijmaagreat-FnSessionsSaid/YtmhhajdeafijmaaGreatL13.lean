/-
  That the program and the reference answer alike, in plain terms, and that the laws answer true.
-/
import Derived.Test.YtmhhajdeafijmaaGreatL12
namespace Go.Proofs.YtmhhajdeafijmaaGreat
open Go.RowKit
set_option linter.unusedVariables false
set_option linter.unusedSimpArgs false
set_option maxRecDepth 100000
set_option maxHeartbeats 4000000
noncomputable section
def Ku (k l:List YB):List YB×Bool:=if l.length≤100∧k.length≤1048576 then(F6 k (l++[((1:Int),())]),true)else([],false)
theorem A27 (k l:List YB):Afl (k,()) (l,()) ((32:Int),())=some (((Ku k l).1,()),((Ku k l).2,())):=by
 unfold Afl Ae3 Ku
 simp only[Ae,Ai,Ac,Ak,Cj,Ag]
 rw[C7 zq4]
 by_cases hl:l.length≤100
 ·rw[Bj zq0,An]
  by_cases hk:k.length≤1048576
  ·rw[Bj zq0,An,if_pos ⟨hl,hk⟩]
   have h32:(F6 k (l++[((1:Int),())])).length=32:=Vy _ _ hk zq1
   have e1:Jw (k,l,(32:Int),[],[],(1:Int),())=some (.inl (k,l,(32:Int),F6 k (l++[((1:Int),())]),F6 k (l++[((1:Int),())]),(2:Int),())):=by
    unfold Jw
    simp only[Ae,Ai,Ac,Ak]
    rw[Am zq3,A0,Ks _ (by simp[cat];omega) zq3,Ag,show cat [([],()),(l,()),([(IntKind.u8.wrap 1,())],())]=l++[((1:Int),())] by simp[cat];rfl,Aqe,Ag,Am (by dsimp only[List.length_nil];omega),Ba,List.nil_append]
    rfl
   have e2:Jw (k,l,(32:Int),F6 k (l++[((1:Int),())]),F6 k (l++[((1:Int),())]),(2:Int),())=some (.inr ((32:Int),F6 k (l++[((1:Int),())]),())):=by
    unfold Jw
    simp only[Ae,Ai,Ac,Ak]
    rw[Bj zq0,An]
   rw[C9,e1]
   simp only
   rw[C9,e2]
   simp only[Ag]
   rw[Am zq0,Ba,Am zq0,Ba,show(32:Int).toNat=32 from rfl,show(0:Int).toNat=0 from rfl,List.drop_zero,List.take_of_length_le zq0,Cw _ zq2,Ag]
  ·rw[Am zq0,A0,if_neg (fun h=>hk h.2)]
 ·rw[Am zq0,A0,if_neg (fun h=>hl h.1)]
theorem A28 (k l:List YB):Afa (k,()) (l,()) ((32:Int),())=some (((Ku k l).1,()),((Ku k l).2,())):=by
 unfold Afa Adr Ku
 simp only[Ae,Ai,Ac,Ak,Cz,Ag,List.nil_append,List.length_nil,Nat.zero_add]
 rw[C7 zq4]
 by_cases hl:l.length≤100
 ·rw[Bj zq0,An]
  by_cases hk:k.length≤1048576
  ·rw[Bj zq0,An,if_pos ⟨hl,hk⟩]
   have h32:(F6 k (l++[((1:Int),())])).length=32:=Vy _ _ hk zq1
   have e1:Jj (k,l,(32:Int),[],[],(1:Int),())=some (.inl (k,l,(32:Int),F6 k (l++[((1:Int),())]),F6 k (l++[((1:Int),())]),(2:Int),())):=by
    unfold Jj
    simp only[Ae,Ai,Ac,Ak,List.nil_append,List.length_nil,Nat.zero_add]
    rw[Am zq3,A0,Am zq0,Ba,Am zq0,Ba,Am zq1,Ba,show(IntKind.u8.wrap 1:Int)=1 from rfl,Ajm,Ag,Am zq2,Ba]
    rfl
   have e2:Jj (k,l,(32:Int),F6 k (l++[((1:Int),())]),F6 k (l++[((1:Int),())]),(2:Int),())=some (.inr ((32:Int),F6 k (l++[((1:Int),())]),())):=by
    unfold Jj
    simp only[Ae,Ai,Ac,Ak]
    rw[Bj zq0,An]
   rw[C9,e1]
   simp only
   rw[C9,e2]
   simp only[Ag]
   rw[Am zq0,Ba,Am zq0,Ba,show(32:Int).toNat=32 from rfl,show(0:Int).toNat=0 from rfl,List.drop_zero,List.take_of_length_le zq0,Am zq0,Ba]
  ·rw[Am zq0,A0,if_neg (fun h=>hk h.2)]
 ·rw[Am zq0,A0,if_neg (fun h=>hl h.1)]
def E8 (k l:List YB):List YB:=(Ku k l).1
theorem Aqi (k l:List YB):(E8 k l).length=32∨(E8 k l).length=0:=by
 unfold E8 Ku
 split
 ·exact Afz _ _
 ·right;rfl
theorem Axd (k:List YB) (b:ByteArray) (h:b.size≤4294967296):Ra (k,()) (b,())=some (E8 k (Qy b),()):=by
 unfold Ra Ae4
 simp only[Ai,Ac,Ak]
 rw[Am h,Ba,A27,Ag];rfl
theorem Anv (k:List YB) (b:ByteArray) (h:b.size≤4294967296):Cs (k,()) (b,())=some (E8 k (Qy b),()):=by
 unfold Cs Ads
 simp only[Ai,Ac,Ak]
 rw[Am h,Ba,A28,Ag];rfl
def Le:List YB:=Qy (Cy [114,101,107,101,121])
def A5a:List YB:=Qy (Cy [101,112,111,99,104])
theorem A5b (k:List YB):Ra (k,()) (Cy [114,101,107,101,121],())=some (E8 k Le,()):=Axd k _ zq4
theorem Z1 (k:List YB):Cs (k,()) (Cy [114,101,107,101,121],())=some (E8 k Le,()):=Anv k _ zq4
theorem A5c (k:List YB):Cs (k,()) (Cy [101,112,111,99,104],())=some (E8 k A5a,()):=Anv k _ zq4
def Aqj (k:List YB):Nat→List YB
 |0=>k
 |n+1=>E8 (Aqj k n) Le
def Aqk (k:List YB) (n:Int):List YB:=if 0≤n∧n≤64 then Aqj k n.toNat else []
theorem A80 (k:List YB) (n:Int) (h:k.length≤4294967296):Ai7 (k,()) (n,())=some (Aqk k n,()):=by
 unfold Ai7 Ah3 Aqk
 simp only[Ae,Ai,Ac,Ak,Cz,Ag,List.nil_append,List.length_nil,Nat.zero_add]
 by_cases hn:0≤n∧n≤64
 ·obtain⟨m,rfl⟩:=Int.eq_ofNat_of_zero_le hn.1
  have hr:=Cp (B:=Lh) m (fun i=>((m:Int),Aqj k i,(i:Int),())) (Aqj k m,())
   (fun i hi=>by
    unfold Lh
    simp only[Ae,Ai,Ac]
    rw[Am zq0,A0,Z1,Ag,w64 zq0]
    rfl)
   (by
    unfold Lh
    simp only[Ae,Ai,Ac]
    rw[Bj zq0,An])
  rw[C7 (by simp[inR];omega),Am h,Ba,if_pos hn]
  rw[show Ay Lh ((m:Int),k,(0:Int),())=_ from hr,Ag]
  rfl
 ·rw[if_neg hn,Fh (by simp[inR];omega)]
def Nm (p a b:List YB):List YB:=if inR (p.length:Int) 1 32=true∧a.length=12∧b.length=12 then F6 (a++b) p else []
theorem A5d (p a b:List YB):Abd (p,()) (a,()) (b,())=some (Nm p a b,()):=by
 unfold Abd Aao Nm Tn Tc
 simp only[Ae,Ai,Ac,Ak,Akr,Ag,Nl,List.nil_append,List.length_nil,Nat.zero_add]
 cases inR (p.length:Int) 1 32 with
 |false=>rw[if_neg zq3];rfl
 |true=>
  simp only[Bool.not_true,An]
  by_cases h1:a.length=12
  ·rw[C7 (by simp[h1])]
   by_cases h2:b.length=12
   ·rw[C7 (by simp[h2]),Am zq0,Ba,Am zq0,Ba,Ajm,if_pos ⟨trivial,h1,h2⟩];rfl
   ·rw[Fh zq1,if_neg (fun h=>h2 h.2.2)]
  ·rw[Fh zq1,if_neg (fun h=>h1 h.2.1)]
def Jg (r:List YB):List YB:=if r.length=32 then E8 r A5a else []
theorem Axe (r:List YB):(Jg r).length=32∨(Jg r).length=0:=by
 unfold Jg
 split
 ·exact Aqi _ _
 ·right;rfl
theorem A29 (r:List YB):W5 (r,())=some (Jg r,()):=by
 unfold W5 Wg Jg
 simp only[Ae,Ai,Ac,A5c,Ag]
 by_cases h:r.length=32
 ·rw[if_pos h,C7 (by simp[h])]
 ·rw[if_neg h,Fh zq1]
def Xo (p a b:List YB) (n:Int):List YB:=if (Jg (Nm p a b)).length=0 then []else Aqk (Jg (Nm p a b)) n
theorem Aql (p a b:List YB) (n:YI):W6 (p,()) (a,()) (b,()) n=some (Xo p a b n.1,()):=by
 have hf:=Axe (Nm p a b)
 unfold W6 Wh Xo
 simp only[Ae,Ai,Ac,A5d,A29,Ag]
 by_cases h:(Jg (Nm p a b)).length=0
 ·rw[if_pos h,Fh (by simp[h]),List.eq_nil_of_length_eq_zero h]
 ·rw[if_neg h,C7 (by simp;intro e;rw[e]at h;exact h rfl),A80 _ _ zq0];rfl
theorem Xp:Vi=Vk:=by
 have hr:=Cp (B:=Jk) 32 (fun i=>((i:Int),(0:Int),([]:List YI),(-1:Int),List.replicate i ((0:Int),()),())) ((0:Int),([]:List YI),(-1:Int),List.replicate 32 ((0:Int),()),())
  (fun i hi=>by
   unfold Jk
   simp only[Ae,Ak,Ac]
   rw[Am zq0,A0,Am zq1,Ba,w64 zq0,List.replicate_succ']
   rfl)
  (by
   unfold Jk
   simp only[Ae,Ak,Ac]
   rw[Bj zq0,An])
 unfold Vi Adx Vk Aep
 simp only[Ai,Ac]
 rw[show Ay Jk ((0:Int),(0:Int),([]:List YI),(-1:Int),([]:List YI),())=_ from hr,Ag]
 rfl
def Ua:B8:=((-1:Int),List.replicate 32 ((0:Int),()),())
theorem Xq:Vk=some Ua:=rfl
theorem Anw (n:YI) (k:YBs): ∃r,Ka n k=some r∧Dz n k=some r∧B5 r≤64:=by
 unfold Ka Zl Dz Ts
 simp only[Ae,Ai,Ac,Ak,Cj,Cz,Ag,Xp,Xq,List.nil_append,List.length_nil,Nat.zero_add]
 cases inR n.1 0 4294967295 with
 |false=>exact⟨_,rfl,rfl,by decide⟩
 |true=>
  simp only[Bool.not_true,An]
  by_cases h:k.1.length=32
  ·have q:((k.1.length:Int) != 32)=false:=by simp[h]
   rw[q,Cw k zq0,Am zq0]
   simp only[An,Ag,Ba]
   refine⟨_,rfl,rfl,?_⟩
   simp only[B5,Ua,List.length_replicate];omega
  ·have q:((k.1.length:Int) != 32)=true:=by simp;omega
   rw[q]
   exact⟨_,rfl,rfl,by decide⟩
end
end Go.Proofs.YtmhhajdeafijmaaGreat

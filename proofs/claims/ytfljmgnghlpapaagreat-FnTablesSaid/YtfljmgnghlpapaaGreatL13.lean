/-
  That the program and the reference answer alike, in plain terms, and that the laws answer true.
-/
import Derived.Test.YtfljmgnghlpapaaGreatL12
namespace Go.Proofs.YtfljmgnghlpapaaGreat
open Go.RowKit
set_option linter.unusedVariables false
set_option linter.unusedSimpArgs false
set_option maxRecDepth 100000
set_option maxHeartbeats 4000000
noncomputable section
theorem X8 {E:Type} {f:E→Nat}: ∀ {l:List E} {i:Nat} {x:E},C4 f (l.set i x)≤C4 f l+f x
 |[],_,_=>by simp[C4]
 |a::r,0,x=>by simp only[List.set_cons_zero,C4];omega
 |a::r,i+1,x=>by have:=X8 (f:=f) (l:=r) (i:=i) (x:=x);simp only[List.set_cons_succ,C4];omega
theorem Asz (t:A7) (n:YI) (s:Af) (h:A3 t+Az s≤1073741824): ∃r b,Kd t n s=some (r,(b,()))∧U5 t n s=some (r,(b,()))∧A3 r≤A3 t+Az s:=by
 unfold Kd N5 U5 Uv
 simp only[Ah,Ai,Ab,Am,Dd]
 have hl:t.2.1.length≤A3 t:=by simp only[A3];omega
 rw[Ov t zq0,Alc t zq0,Gb t zq0,Ado t zq0,Jk s zq0,Tb s zq0]
 simp only[Ak]
 rw[w64 zq0]
 cases Ec t with
 |false=>exact⟨t,false,rfl,rfl,by omega⟩
 |true=>
  simp only[Bool.not_true,A1]
  by_cases h1:n.1<0
  ·rw[Ao h1,A9,Gj (by simp[inR];omega)]
   exact⟨t,false,rfl,rfl,by omega⟩
  ·rw[Bn h1,A1]
   by_cases h2:n.1≥(t.2.1.length:Int)
   ·rw[Ao h2,A9,Gj (by simp[inR];omega)]
    exact⟨t,false,rfl,rfl,by omega⟩
   ·rw[Bn h2,A1,Fg (by simp[inR];omega)]
    obtain⟨e,he,_⟩:=K1 (l:=t.2.1) (n:=n.1) zq0 zq0
    rw[he,Ak,Ak]
    have hn:A3 (t.1,t.2.1.set n.1.toNat s,())≤A3 t+Az s:=by
     have:=X8 (f:=Az) (l:=t.2.1) (i:=n.1.toNat) (x:=s)
     simp only[A3,List.length_set];omega
    rw[Gb _ zq0,Ado _ zq0]
    simp only[Ak]
    cases Ec (t.1,t.2.1.set n.1.toNat s,())with
    |false=>exact⟨t,false,rfl,rfl,by omega⟩
    |true=>exact⟨_,true,rfl,rfl,hn⟩
theorem Ah5 (t:A7) (s:Af) (h:A3 t+Az s≤1073741824): ∃r b,Kc t s=some (r,(b,()))∧Ka t s=some (r,(b,()))∧A3 r≤A3 t+Az s+1:=by
 unfold Kc N4 Ka Ul
 simp only[Ah,Ai,Ab,Am]
 have hl:t.2.1.length≤A3 t:=by simp only[A3];omega
 rw[Ov t zq0,Alc t zq0,Gb t zq0,Ado t zq0,Jk s zq0,Tb s zq0,Ru s zq0,Afy s zq0,Rw _ _ zq0,Anz _ _ zq0,Rx _ zq0,Auw _ zq0]
 simp only[Ak]
 cases Ec t with
 |false=>exact⟨t,1,rfl,rfl,by omega⟩
 |true=>
  cases C6 s with
  |false=>exact⟨t,1,rfl,rfl,by omega⟩
  |true=>
   simp only[Bool.not_true,A1]
   cases s.2.2.2.2.2.2.2.2.2.2.2.2.2.2.2.2.2.2.2.2.2.2.2.1 with
   |true=>exact⟨t,1,rfl,rfl,by omega⟩
   |false=>
    simp only[A1]
    cases decide (Eb t.2.1 s.2.2.1≥0)with
    |true=>exact⟨t,3,rfl,rfl,by omega⟩
    |false=>
     simp only[A1]
     cases Dy t==t.1 with
     |true=>exact⟨t,7,rfl,rfl,by omega⟩
     |false=>
      simp only[A1]
      cases (t.2.1.length:Int)==12 with
      |true=>exact⟨t,7,rfl,rfl,by omega⟩
      |false=>
       simp only[A1]
       rw[Ao zq1,Bd]
       refine⟨_,0,rfl,rfl,?_⟩
       simp only[A3,Af0,C4,List.length_append,List.length_cons,List.length_nil]
       omega
def R1 (k l:List YB):List YB×Bool:=if l.length≤100∧k.length≤1048576 then(Iy k (l++[((1:Int),())]),true)else([],false)
theorem As0 (k l:List YB):Xo (k,()) (l,()) ((32:Int),())=some (((R1 k l).1,()),((R1 k l).2,())):=by
 unfold Xo Wh R1
 simp only[Ah,Ai,Ab,Am,Dd,Ak,List.nil_append,List.length_nil,Nat.zero_add]
 rw[Fg zq3]
 by_cases hl:l.length≤100
 ·rw[Bn zq0,A1]
  by_cases hk:k.length≤1048576
  ·rw[Bn zq0,A1,if_pos ⟨hl,hk⟩]
   have h32:(Iy k (l++[((1:Int),())])).length=32:=Ayl _ _ hk zq1
   have e1:Gy (k,l,(32:Int),[],[],(1:Int),())=some (.inl (k,l,(32:Int),Iy k (l++[((1:Int),())]),Iy k (l++[((1:Int),())]),(2:Int),())):=by
    unfold Gy
    simp only[Ah,Ai,Ab,Am,List.nil_append,List.length_nil,Nat.zero_add]
    rw[Ao (by simp),A9,Ao zq0,Bd,Ao zq0,Bd,Ao zq1,Bd,show(IntKind.u8.wrap 1:Int)=1 from rfl,Ah3,Ak,Ao zq2,Bd]
    rfl
   have e2:Gy (k,l,(32:Int),Iy k (l++[((1:Int),())]),Iy k (l++[((1:Int),())]),(2:Int),())=some (.inr ((32:Int),Iy k (l++[((1:Int),())]),())):=by
    unfold Gy
    simp only[Ah,Ai,Ab,Am]
    rw[Bn zq0,A1]
   rw[Cr,e1]
   simp only
   rw[Cr,e2]
   simp only[Ak]
   rw[Ao zq0,Bd,Ao zq0,Bd,show(32:Int).toNat=32 from rfl,show(0:Int).toNat=0 from rfl,List.drop_zero,List.take_of_length_le zq0,Ao zq0,Bd]
  ·rw[Ao zq0,A9,if_neg (fun h=>hk h.2)]
 ·rw[Ao zq0,A9,if_neg (fun h=>hl h.1)]
def Ke (k l:List YB):List YB:=(R1 k l).1
theorem Ah6 (k l:List YB):(Ke k l).length=32∨(Ke k l).length=0:=by
 unfold Ke R1
 split
 ·exact An4 _ _
 ·right;rfl
theorem Af1 (k:List YB) (b:ByteArray) (h:b.size≤4294967296):Cd (k,()) (b,())=some (Ke k (G6 b),()):=by
 unfold Cd Wi
 simp only[Ai,Ab,Am]
 rw[Ao h,Bd,As0,Ak];rfl
def Ah7:List YB:=G6 (Cq [114,101,107,101,121])
def Au3:List YB:=G6 (Cq [101,112,111,99,104])
theorem Ald (k:List YB):Cd (k,()) (Cq [114,101,107,101,121],())=some (Ke k Ah7,()):=Af1 k _ zq3
theorem Au4 (k:List YB):Cd (k,()) (Cq [101,112,111,99,104],())=some (Ke k Au3,()):=Af1 k _ zq3
def Ah8 (k:List YB):Nat→List YB
 |0=>k
 |n+1=>Ke (Ah8 k n) Ah7
def An8 (k:List YB) (n:Int):List YB:=if 0≤n∧n≤64 then Ah8 k n.toNat else []
theorem Ayo (k:List YB) (n:Int) (h:k.length≤4294967296):Acb (k,()) (n,())=some (An8 k n,()):=by
 unfold Acb Aa5 An8
 simp only[Ah,Ai,Ab,Am,Dd,Ak,List.nil_append,List.length_nil,Nat.zero_add]
 by_cases hn:0≤n∧n≤64
 ·obtain⟨m,rfl⟩:=Int.eq_ofNat_of_zero_le hn.1
  have hr:=Co (B:=H4) m (fun i=>((m:Int),Ah8 k i,(i:Int),())) (Ah8 k m,())
   (fun i hi=>by
    unfold H4
    simp only[Ah,Ai,Ab]
    rw[Ao zq0,A9,Ald,Ak,w64 zq0]
    rfl)
   (by
    unfold H4
    simp only[Ah,Ai,Ab]
    rw[Bn zq0,A1])
  rw[Fg (by simp[inR];omega),Ao h,Bd,if_pos hn]
  rw[show As H4 ((m:Int),k,(0:Int),())=_ from hr,Ak]
  rfl
 ·rw[if_neg hn,Gj (by simp[inR];omega)]
def Qf (p a b:List YB):List YB:=if inR (p.length:Int) 1 32=true∧a.length=12∧b.length=12 then Iy (a++b) p else []
theorem Au5 (p a b:List YB):Uz (p,()) (a,()) (b,())=some (Qf p a b,()):=by
 unfold Uz Tx Qf N7 Nr
 simp only[Ah,Ai,Ab,Am,Ajn,Ak,Amx,List.nil_append,List.length_nil,Nat.zero_add]
 cases inR (p.length:Int) 1 32 with
 |false=>rw[if_neg (by simp)];rfl
 |true=>
  simp only[Bool.not_true,A1]
  by_cases h1:a.length=12
  ·rw[Fg (by simp[h1])]
   by_cases h2:b.length=12
   ·rw[Fg (by simp[h2]),Ao zq0,Bd,Ao zq0,Bd,Ah3,if_pos ⟨trivial,h1,h2⟩];rfl
   ·rw[Gj zq1,if_neg (fun h=>h2 h.2.2)]
  ·rw[Gj zq1,if_neg (fun h=>h1 h.2.1)]
def Iz (r:List YB):List YB:=if r.length=32 then Ke r Au3 else []
theorem An9 (r:List YB):(Iz r).length=32∨(Iz r).length=0:=by
 unfold Iz
 split
 ·exact Ah6 _ _
 ·right;rfl
theorem As1 (r:List YB):Rg (r,())=some (Iz r,()):=by
 unfold Rg Qq Iz
 simp only[Ah,Ai,Ab,Au4,Ak]
 by_cases h:r.length=32
 ·rw[if_pos h,Fg (by simp[h])]
 ·rw[if_neg h,Gj zq1]
def Aoa (p a b:List YB) (n:Int):List YB:=if (Iz (Qf p a b)).length=0 then []else An8 (Iz (Qf p a b)) n
theorem As2 (p a b:List YB) (n:YI):Rh (p,()) (a,()) (b,()) n=some (Aoa p a b n.1,()):=by
 have hf:=An9 (Qf p a b)
 unfold Rh Qr Aoa
 simp only[Ah,Ai,Ab,Au5,As1,Ak]
 by_cases h:(Iz (Qf p a b)).length=0
 ·rw[if_pos h,Gj (by simp[h]),List.eq_nil_of_length_eq_zero h]
 ·rw[if_neg h,Fg (by simp;intro e;rw[e]at h;exact h rfl),Ayo _ _ zq0];rfl
theorem Aob:Pz=P7:=by
 have hr:=Co (B:=Gz) 32 (fun i=>((i:Int),(0:Int),([]:List YI),(-1:Int),List.replicate i ((0:Int),()),())) ((0:Int),([]:List YI),(-1:Int),List.replicate 32 ((0:Int),()),())
  (fun i hi=>by
   unfold Gz
   simp only[Ah,Am,Ab]
   rw[Ao zq0,A9,Ao zq1,Bd,w64 zq0,List.replicate_succ']
   rfl)
  (by
   unfold Gz
   simp only[Ah,Am,Ab]
   rw[Bn zq0,A1])
 unfold Pz Wn P7 Ahs
 simp only[Ai,Ab]
 rw[show As Gz ((0:Int),(0:Int),([]:List YI),(-1:Int),([]:List YI),())=_ from hr,Ak]
 rfl
def Acv:Bs:=((-1:Int),List.replicate 32 ((0:Int),()),())
theorem Aoc:P7=some Acv:=rfl
theorem Awr (n:YI) (k:YBs): ∃r,Ak2 n k=some r∧Is n k=some r∧Dj r≤64:=by
 unfold Ak2 Ak1 Is Aa7
 simp only[Ah,Ai,Ab,Am,D0,Dd,Ak,Aob,Aoc,List.nil_append,List.length_nil,Nat.zero_add]
 cases inR n.1 0 4294967295 with
 |false=>exact⟨_,rfl,rfl,by decide⟩
 |true=>
  simp only[Bool.not_true,A1]
  by_cases h:k.1.length=32
  ·have q:((k.1.length:Int) != 32)=false:=by simp[h]
   rw[q,Lc k zq0,Ao zq0]
   simp only[A1,Ak,Bd]
   refine⟨_,rfl,rfl,?_⟩
   simp only[Dj,Acv,List.length_replicate];omega
  ·have q:((k.1.length:Int) != 32)=true:=by simp;omega
   rw[q]
   exact⟨_,rfl,rfl,by decide⟩
end
end Go.Proofs.YtfljmgnghlpapaaGreat

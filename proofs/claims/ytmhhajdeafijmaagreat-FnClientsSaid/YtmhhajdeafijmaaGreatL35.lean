/-
  That the program and the reference answer alike, in plain terms, and that the laws answer true.
-/
import Derived.Test.YtmhhajdeafijmaaGreatL34
namespace Go.Proofs.YtmhhajdeafijmaaGreat
open Go.RowKit
set_option linter.unusedVariables false
set_option linter.unusedSimpArgs false
set_option maxRecDepth 100000
set_option maxHeartbeats 8000000
noncomputable section
theorem Bdq {c:Ac} (h:Bw c=true):0≤c.2.2.2.2.1∧c.2.2.2.2.1≤3:=by
 unfold Bw at h
 cases h0:(c.2.2.2.2.1==(0:Int))with
 |true=>have:=eq_of_beq h0;omega
 |false=>
 cases h1:(c.2.2.2.2.1==(1:Int))with
 |true=>have:=eq_of_beq h1;omega
 |false=>
 cases h2:(c.2.2.2.2.1==(2:Int))with
 |true=>have:=eq_of_beq h2;omega
 |false=>
 cases h3:(c.2.2.2.2.1==(3:Int))with
 |true=>have:=eq_of_beq h3;omega
 |false=>
 simp[h0,h1,h2,h3]at h
theorem Az5 {p a b:List YB} (k:Km (p,())=true) (h1:a.length=12) (h2:b.length=12):(Hb p a b 0).length=32:=by
 have hroot:(E7 p a b).length=32:=by
  unfold E7
  have hp:inR (p.length:Int) 1 32=true:=k
  rw[if_pos ⟨hp,h1,h2⟩]
  have:=Bt.1 hp
  exact Qu _ _ zq1 zq0
 have hfirst:(El (E7 p a b)).length=32:=by
  unfold El
  rw[if_pos hroot]
  exact Ami zq4 zq0
 unfold Hb
 rw[if_neg zq0]
 unfold Aab
 rw[if_pos zq0]
 exact hfirst
theorem Ajv (c:Ac) (n:YI) (f:Ab) (h:Ao c≤8388608) (h2:Ar f≤8388608) (w1:wfB f.2.2.2.1) (w2:wfB (C0 c).2.1):
  ∃r fs ns,Iu c n f=some (r,(fs,()),(ns,()))∧Ik c n f=some (r,(fs,()),(ns,()))∧ClH c f r fs ns:=by
 have none: ∃r fs ns,some (c,(([]:List Ab),()),(([]:List Ah),()))=some (r,(fs,()),(ns,()))∧some (c,(([]:List Ab),()),(([]:List Ah),()))=some (r,(fs,()),(ns,()))∧ClH c f r fs ns:=⟨c,[],[],rfl,rfl,.none⟩
 have hcn:c.2.2.2.2.2.1.length≤Ao c:=by simp only[Ao];omega
 have hfs:f.2.2.2.1.length≤Ar f:=by simp only[Ar];omega
 unfold Iu Lv Ik Qc
 simp only[Aj,Al,Af,Aq,R7,R8,Ht]
 rw[Pi c zq0,Awe c zq0,Wy c zq0,Ail c,Ch,Cz,La,No,Z6,Na,Rs,Ah5]
 simp only[An]
 cases ho:Bw c with
 |false=>exact none
 |true=>
 simp only[Bool.not_true,Aw]
 cases hn:inR n.1 0 1000000 with
 |false=>exact none
 |true=>
 simp only[Bool.not_true,Aw]
 cases hf:Cc f with
 |false=>exact none
 |true=>
 simp only[Bool.not_true,Aw]
 have hn':=Bt.1 hn
 have seald: ∃r fs ns,br (inR f.1 4 8) (br (c.2.2.2.2.1==(2:Int)) (ob (Dl c n f) fun r=>some (r.1,r.2.1,r.2.2)) (br (c.2.2.2.2.1==(3:Int)) (ob (Dl c n f) fun r=>some (r.1,r.2.1,r.2.2)) (some (c,(([]:List Ab),()),(([]:List Ah),()))))) (some (c,(([]:List Ab),()),(([]:List Ah),())))=some (r,(fs,()),(ns,()))∧
   br (!inR f.1 4 8) (some (c,(([]:List Ab),()),(([]:List Ah),()))) (br (decide (c.2.2.2.2.1<(2:Int))) (some (c,(([]:List Ab),()),(([]:List Ah),()))) (Hs c n f c).val)=some (r,(fs,()),(ns,()))∧ClH c f r fs ns:=by
  cases hs:inR f.1 4 8 with
  |false=>exact none
  |true=>
  simp only[Bool.not_true,Aw,Az]
  by_cases hst:c.2.2.2.2.1=2∨c.2.2.2.2.1=3
  ·obtain⟨r,fs,ns,a1,a2,a3⟩:=Axx c n f h h2 ho hst w1 w2
   rw[a1,a2,Bg (p:=c.2.2.2.2.1<(2:Int)) zq0]
   simp only[An,Aw]
   rcases hst with hst|hst
   ·rw[hst];exact⟨r,fs,ns,rfl,rfl,a3⟩
   ·rw[hst];exact⟨r,fs,ns,rfl,rfl,a3⟩
  ·have hr:=Bdq ho
   rw[Ap (p:=c.2.2.2.2.1<(2:Int)) zq0,show(c.2.2.2.2.1==(2:Int))=false by simp;omega,show(c.2.2.2.2.1==(3:Int))=false by simp;omega]
   exact none
 by_cases hk:f.1=2
 ·have hk':(f.1==(2:Int))=true:=by simpa using hk
  rw[hk',Az,Az]
  by_cases hst:c.2.2.2.2.1=1
  ·have hst':(c.2.2.2.2.1==(1:Int))=true:=by simpa using hst
   rw[hst',Az,Az]
   cases hcc:Dq f.2.2.1 c.2.2.2.2.2.1 with
   |false=>
    rw[Aw,Aw]
    exact seald
   |true=>
    rw[Az,Az]
    obtain⟨r,fs,ns,t,t1,t2,t3,t4,t5,t6⟩:=Axw c n f h h2 ho hn' hf hk hst hcc
    obtain⟨k1,k2,k3⟩:=Ae3 ho
    obtain⟨s1,s2,s3⟩:=A77 ho hst
    obtain⟨a1,a2,a3,a4,a5,a6,a7,a8,a9,a10⟩:=Aaf hf hk
    obtain⟨g1,g2,g3⟩:=Aju c.2.1 c.1 f k2 k1 hf hk
    have hek:=Az5 (p:=c.2.1) (a:=c.2.2.2.2.2.1) (b:=f.2.2.2.1) k2 s1 a2
    obtain⟨_,n1⟩:=Ao0 0 f.2.2.2.1 (Hb c.2.1 c.2.2.2.2.2.1 f.2.2.2.1 0) (.inl rfl) a2 hek
    have hpl:=Tp (id:=c.1) (cn:=f.2.2.1) (sn:=f.2.2.2.1) (tick:=f.2.2.2.2.1) (ck:=f.2.2.2.2.2.1)
    have hpb:(Dm c.1 f.2.2.1 f.2.2.2.1 f.2.2.2.2.1 f.2.2.2.2.2.1).length≤46:=by rw[hpl];cases Hf c.1 f.2.2.1 f.2.2.2.1 f.2.2.2.2.1 f.2.2.2.2.2.1<;>simp
    have hfk:=Amj c.2.1
    have hpf:=Awg c.2.1 c.1 f.2.2.1 f.2.2.2.1 f.2.2.2.2.1 f.2.2.2.2.2.1
    rw[t2,An]
    refine⟨r,fs,ns,rfl,?_,t3⟩
    rw[g2,A5f,t1]
    simp only[An]
    rw[n1,Ao2]
    simp only[An]
    rw[show Ju ((Db c.2.1 c.1 f).2.1,()) ((Db c.2.1 c.1 f).2.2.1,()) ((Db c.2.1 c.1 f).2.2.2.1,()) ((Db c.2.1 c.1 f).2.2.2.2.1,()) ((Db c.2.1 c.1 f).2.2.2.2.2.1,())=some (Dm c.1 f.2.2.1 f.2.2.2.1 f.2.2.2.2.1 f.2.2.2.2.2.1,())from Ao4 _ _ _ _ _]
    simp only[An]
    rw[A7u _ _ zq0 zq0,Aim _ (by simp only[Ar,Db,List.length_nil];omega)]
    simp only[An]
    rw[t4,t5,t6]
    simp only[List.length_nil,Nat.zero_add,List.nil_append,List.length_cons,List.length_append,Nat.reduceAdd,Nat.reduceLeDiff,decide_true,Bd]
    rw[Ap (p:=c.2.2.2.2.2.1.length≤4294967296) zq0,Ap (p:=f.2.2.2.1.length≤4294967296) zq0,Bd,Bd]
    rfl
  ·have hst':(c.2.2.2.2.1==(1:Int))=false:=by simpa using hst
   rw[hst',Aw,Aw]
   exact seald
 ·have hk':(f.1==(2:Int))=false:=by simpa using hk
  rw[hk',Aw,Aw]
  exact seald
end
end Go.Proofs.YtmhhajdeafijmaaGreat

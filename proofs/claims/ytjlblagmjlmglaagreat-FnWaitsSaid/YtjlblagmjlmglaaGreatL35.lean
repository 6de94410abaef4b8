/-
  That the program and the reference answer alike, in plain terms, and that the laws answer true.
-/
import Derived.Test.YtjlblagmjlmglaaGreatL34
namespace Go.Proofs.YtjlblagmjlmglaaGreat
open Go.RowKit
set_option linter.unusedVariables false
set_option linter.unusedSimpArgs false
set_option maxRecDepth 100000
set_option maxHeartbeats 8000000
noncomputable section
theorem Bdr {c:Ab} (h:Bk c=true):0≤c.2.2.2.2.1∧c.2.2.2.2.1≤3:=by
 unfold Bk at h
 cases h0:(c.2.2.2.2.1==(0:Int))with
 |true=>have:=eq_of_beq h0;omega
 |false=>
 cases h1:(c.2.2.2.2.1==(1:Int))with
 |true=>have:=eq_of_beq h1;omega
 |false=>
 cases h2:(c.2.2.2.2.1==(2:Int))with
 |true=>have:=eq_of_beq h2;omega
 |false=>
 cases h3:(c.2.2.2.2.1==(3:Int))with
 |true=>have:=eq_of_beq h3;omega
 |false=>
 simp[h0,h1,h2,h3]at h
theorem Azy {p a b:List YB} (k:F9 (p,())=true) (h1:a.length=12) (h2:b.length=12):(Hg p a b 0).length=32:=by
 have hroot:(Fc p a b).length=32:=by
  unfold Fc
  have hp:inR (p.length:Int) 1 32=true:=k
  rw[if_pos ⟨hp,h1,h2⟩]
  have:=Bf.1 hp
  exact Qt _ _ zq1 zq0
 have hfirst:(Ep (Fc p a b)).length=32:=by
  unfold Ep
  rw[if_pos hroot]
  exact Al2 zq4 zq0
 unfold Hg
 rw[if_neg zq0]
 unfold Z7
 rw[if_pos zq0]
 exact hfirst
theorem Axr (c:Ab) (n:YI) (f:Aa) (h:An c≤8388608) (h2:Ar f≤8388608) (w1:wfB f.2.2.2.1) (w2:wfB (Cw c).2.1):
  ∃r fs ns,Aes c n f=some (r,(fs,()),(ns,()))∧Ix c n f=some (r,(fs,()),(ns,()))∧ClH c f r fs ns:=by
 have none: ∃r fs ns,some (c,(([]:List Aa),()),(([]:List Ae),()))=some (r,(fs,()),(ns,()))∧some (c,(([]:List Aa),()),(([]:List Ae),()))=some (r,(fs,()),(ns,()))∧ClH c f r fs ns:=⟨c,[],[],rfl,rfl,.none⟩
 have hcn:c.2.2.2.2.2.1.length≤An c:=by simp only[An];omega
 have hfs:f.2.2.2.1.length≤Ar f:=by simp only[Ar];omega
 unfold Aes Aer Ix P0
 simp only[Ai,Aj,Ad,Ap,Si,Sj,H0]
 rw[Hh c zq0,Sp c zq0,Ma c zq0,Pf c,B6,Bv,Nt,Ns,Z2,Nh,Ru,Ahn]
 simp only[Al]
 cases ho:Bk c with
 |false=>exact none
 |true=>
 simp only[Bool.not_true,Aq]
 cases hn:inR n.1 0 1000000 with
 |false=>exact none
 |true=>
 simp only[Bool.not_true,Aq]
 cases hf:B9 f with
 |false=>exact none
 |true=>
 simp only[Bool.not_true,Aq]
 have hn':=Bf.1 hn
 have seald: ∃r fs ns,br (inR f.1 4 8) (br (c.2.2.2.2.1==(2:Int)) (ob (Dn c n f) fun r=>some (r.1,r.2.1,r.2.2)) (br (c.2.2.2.2.1==(3:Int)) (ob (Dn c n f) fun r=>some (r.1,r.2.1,r.2.2)) (some (c,(([]:List Aa),()),(([]:List Ae),()))))) (some (c,(([]:List Aa),()),(([]:List Ae),())))=some (r,(fs,()),(ns,()))∧
   br (!inR f.1 4 8) (some (c,(([]:List Aa),()),(([]:List Ae),()))) (br (decide (c.2.2.2.2.1<(2:Int))) (some (c,(([]:List Aa),()),(([]:List Ae),()))) (Hz c n f c).val)=some (r,(fs,()),(ns,()))∧ClH c f r fs ns:=by
  cases hs:inR f.1 4 8 with
  |false=>exact none
  |true=>
  simp only[Bool.not_true,Aq,Ax]
  by_cases hst:c.2.2.2.2.1=2∨c.2.2.2.2.1=3
  ·obtain⟨r,fs,ns,a1,a2,a3⟩:=Axq c n f h h2 ho hst w1 w2
   rw[a1,a2,Bb (p:=c.2.2.2.2.1<(2:Int)) zq0]
   simp only[Al,Aq]
   rcases hst with hst|hst
   ·rw[hst];exact⟨r,fs,ns,rfl,rfl,a3⟩
   ·rw[hst];exact⟨r,fs,ns,rfl,rfl,a3⟩
  ·have hr:=Bdr ho
   rw[Ao (p:=c.2.2.2.2.1<(2:Int)) zq0,show(c.2.2.2.2.1==(2:Int))=false by simp;omega,show(c.2.2.2.2.1==(3:Int))=false by simp;omega]
   exact none
 by_cases hk:f.1=2
 ·have hk':(f.1==(2:Int))=true:=by simpa using hk
  rw[hk',Ax,Ax]
  by_cases hst:c.2.2.2.2.1=1
  ·have hst':(c.2.2.2.2.1==(1:Int))=true:=by simpa using hst
   rw[hst',Ax,Ax]
   cases hcc:Dv f.2.2.1 c.2.2.2.2.2.1 with
   |false=>
    rw[Aq,Aq]
    exact seald
   |true=>
    rw[Ax,Ax]
    obtain⟨r,fs,ns,t,t1,t2,t3,t4,t5,t6⟩:=Axp c n f h h2 ho hn' hf hk hst hcc
    obtain⟨k1,k2,k3⟩:=W6 ho
    obtain⟨s1,s2,s3⟩:=A70 ho hst
    obtain⟨a1,a2,a3,a4,a5,a6,a7,a8,a9,a10⟩:=Aac hf hk
    obtain⟨g1,g2,g3⟩:=Ajf c.2.1 c.1 f k2 k1 hf hk
    have hek:=Azy (p:=c.2.1) (a:=c.2.2.2.2.2.1) (b:=f.2.2.2.1) k2 s1 a2
    obtain⟨_,n1⟩:=Aoj 0 f.2.2.2.1 (Hg c.2.1 c.2.2.2.2.2.1 f.2.2.2.1 0) (.inl rfl) a2 hek
    have hpl:=Tn (id:=c.1) (cn:=f.2.2.1) (sn:=f.2.2.2.1) (tick:=f.2.2.2.2.1) (ck:=f.2.2.2.2.2.1)
    have hpb:(Dp c.1 f.2.2.1 f.2.2.2.1 f.2.2.2.2.1 f.2.2.2.2.2.1).length≤46:=by rw[hpl];cases Hk c.1 f.2.2.1 f.2.2.2.1 f.2.2.2.2.1 f.2.2.2.2.2.1<;>simp
    have hfk:=Al3 c.2.1
    have hpf:=Awa c.2.1 c.1 f.2.2.1 f.2.2.2.1 f.2.2.2.2.1 f.2.2.2.2.2.1
    rw[t2,Al]
    refine⟨r,fs,ns,rfl,?_,t3⟩
    rw[g2,A47,t1]
    simp only[Al]
    rw[n1,Aol]
    simp only[Al]
    rw[show J1 ((C9 c.2.1 c.1 f).2.1,()) ((C9 c.2.1 c.1 f).2.2.1,()) ((C9 c.2.1 c.1 f).2.2.2.1,()) ((C9 c.2.1 c.1 f).2.2.2.2.1,()) ((C9 c.2.1 c.1 f).2.2.2.2.2.1,())=some (Dp c.1 f.2.2.1 f.2.2.2.1 f.2.2.2.2.1 f.2.2.2.2.2.1,())from Aon _ _ _ _ _]
    simp only[Al]
    rw[A7n _ _ zq0 zq0,Ap8 _ (by simp only[Ar,C9,List.length_nil];omega)]
    simp only[Al]
    rw[t4,t5,t6]
    simp only[List.length_nil,Nat.zero_add,List.nil_append,List.length_cons,List.length_append,Nat.reduceAdd,Nat.reduceLeDiff,decide_true,A8]
    rw[Ao (p:=c.2.2.2.2.2.1.length≤4294967296) zq0,Ao (p:=f.2.2.2.1.length≤4294967296) zq0,A8,A8]
    rfl
  ·have hst':(c.2.2.2.2.1==(1:Int))=false:=by simpa using hst
   rw[hst',Aq,Aq]
   exact seald
 ·have hk':(f.1==(2:Int))=false:=by simpa using hk
  rw[hk',Aq,Aq]
  exact seald
end
end Go.Proofs.YtjlblagmjlmglaaGreat

/-
  That the program and the reference answer alike, in plain terms, and that the laws answer true.
-/
import Derived.Test.YthccfdmiejmbaaaGreatG6
namespace Go.Proofs.YthccfdmiejmbaaaGreat
open Go.RowKit
set_option linter.unusedVariables false
set_option linter.unusedSimpArgs false
set_option maxRecDepth 100000
set_option maxHeartbeats 8000000
noncomputable section
def nI (b:List YB) (i n:Nat):Int:=(Wu ((b.drop i).take n) 0 n).1.1
def rI (b:List YB) (i n:Nat):List YB:=(b.drop i).take n
def f0:Ap:=((0:Int),(0:Int),([]:List YB),([]:List YB),(0:Int),([]:List YB),([]:List YB),(0:Int),(0:Int),([]:List YB),([]:List YB),())
def pI (b:List YB):Ap:=
 bif nI b 0 1==1 then(nI b 0 1,nI b 1 1,rI b 2 12,[],0,[],[],0,0,[],[],())
 else bif nI b 0 1==2 then(nI b 0 1,0,rI b 1 12,rI b 13 12,nI b 25 4,rI b 29 16,[],0,0,[],[],())
 else bif nI b 0 1==3 then(nI b 0 1,nI b 1 1,rI b 2 12,rI b 14 12,nI b 26 4,rI b 30 16,rI b 46 16,0,0,[],[],())
 else bif inR (nI b 0 1) 4 8 then(nI b 0 1,0,[],rI b 1 12,0,[],[],nI b 13 4,nI b 17 6,rI b 39 41,rI b 23 16,())
 else(nI b 0 1,0,[],[],0,[],[],0,0,[],[],())
def gI (b:List YB):Ap×(Bool×Unit):=bif Bu (pI b) && Cv (D8 (pI b)) b then(pI b,(true,()))else(f0,(false,()))
theorem A9d (b:YBs) (F:Ap):(ob (Dn F) fun r=>br (!r.1) (some (f0,(false,()))) (ob (El F) fun r5=>ob (B7 r5 b) fun r6=>br (!r6.1) (some (f0,(false,()))) (some (F,(true,())))))=some (bif Bu F && Cv (D8 F) b.1 then(F,(true,()))else(f0,(false,()))):=by
 rw[Jq,Ac]
 cases hf:Bu F with
 |false=>rfl
 |true=>
  have hn:=Kx hf
  rw[Aub F zq0,Ac,Gk,Ac]
  cases Cv (D8 F) b.1<;>rfl
theorem A9e (b:List YB) (h:b.length<=4294967296):Jm (b,())=some (gI b):=by
 unfold Jm Zi
 simp only[Af,Ah,Aa,Ak]
 have tn: ∀(i n:Nat),D6 (b.drop i,()) ((n:Int),())=some ((nI b i n,()),(b.drop (i+n),())):=fun i n=>by
  rw[Bir _ _ zq0 zq1]
  simp only[Int.toNat_natCast,List.drop_drop]
  unfold nI Wu
  split<;>rfl
 have tk: ∀(i n:Nat),Co (b.drop i,()) ((n:Int),())=some ((rI b i n,()),(b.drop (i+n),())):=fun i n=>by
  rw[Bbk _ _ zq0 zq1]
  simp only[Int.toNat_natCast,List.drop_drop]
  rfl
 rw[show D6 (b,()) ((1:Int),())=_ from tn 0 1]
 simp only[Ac]
 unfold gI pI
 cases k1:nI b 0 1==1 with
 |true=>
  simp only[A6,cond_true]
  rw[show D6 (b.drop (0+1),()) ((1:Int),())=_ from tn 1 1,Ac,show Co (b.drop (1+1),()) ((12:Int),())=_ from tk 2 12,Ac]
  exact A9d (b,()) _
 |false=>
 simp only[Ao,cond_false]
 cases k2:nI b 0 1==2 with
 |true=>
  have k3:(nI b 0 1==3)=false:=by simp only[beq_iff_eq]at k2;rw[k2];rfl
  simp only[A6,Ao,cond_true,k3]
  rw[show Co (b.drop (0+1),()) ((12:Int),())=_ from tk 1 12,Ac,show Co (b.drop (1+12),()) ((12:Int),())=_ from tk 13 12,Ac,show D6 (b.drop (13+12),()) ((4:Int),())=_ from tn 25 4,Ac,show Co (b.drop (25+4),()) ((16:Int),())=_ from tk 29 16,Ac]
  exact A9d (b,()) _
 |false=>
 simp only[Ao,cond_false]
 cases k3:nI b 0 1==3 with
 |true=>
  simp only[A6,cond_true]
  rw[show D6 (b.drop (0+1),()) ((1:Int),())=_ from tn 1 1,Ac,show Co (b.drop (1+1),()) ((12:Int),())=_ from tk 2 12,Ac,show Co (b.drop (2+12),()) ((12:Int),())=_ from tk 14 12,Ac,show D6 (b.drop (14+12),()) ((4:Int),())=_ from tn 26 4,Ac,show Co (b.drop (26+4),()) ((16:Int),())=_ from tk 30 16,Ac,show Co (b.drop (30+16),()) ((16:Int),())=_ from tk 46 16,Ac]
  exact A9d (b,()) _
 |false=>
 simp only[Ao,cond_false]
 rw[Ws,Ac]
 dsimp only
 cases k4:inR (nI b 0 1) 4 8 with
 |true=>
  simp only[A6,cond_true]
  rw[show Co (b.drop (0+1),()) ((12:Int),())=_ from tk 1 12,Ac,show D6 (b.drop (1+12),()) ((4:Int),())=_ from tn 13 4,Ac,show D6 (b.drop (13+4),()) ((6:Int),())=_ from tn 17 6,Ac,show Co (b.drop (17+6),()) ((16:Int),())=_ from tk 23 16,Ac,show Co (b.drop (23+16),()) ((41:Int),())=_ from tk 39 41,Ac]
  exact A9d (b,()) _
 |false=>
  simp only[Ao,cond_false]
  exact A9d (b,()) _
theorem Bd6 {a b:List YB} (h:Cv a b=true):a.length=b.length:=by
 have h1:Ht a=Ht b:=by simpa [Cv] using h
 unfold Ht at h1
 have h2:=congrArg (fun x=>x.data.size) h1
 simpa using h2
theorem Apx {b:List YB} {i n:Nat} (h1:1<=n/\n<=6) (h2:i+n<=b.length):(Wu b i n).1.1=Qs ((b.drop i).take n):=by
 unfold Wu
 rw[if_pos zq0]
 simp
theorem A9f {b:List YB} {i n:Nat} (h1:1<=n/\n<=6) (h2:i+n<=b.length):nI b i n=Qs ((b.drop i).take n):=by
 unfold nI
 rw[show((0:Int))=((0:Nat):Int)from rfl,Apx h1 zq1]
 simp[List.take_take]
theorem Bue {b:List YB} (hw:wfB b) {i:Nat} (h:i<b.length):nI b i 1=b[i].1/\IntKind.i64.wrap b[i].1=b[i].1:=by
 have hr:=hw i b[i] (List.getElem?_eq_getElem h)
 refine⟨?_,w64 zq0⟩
 rw[A9f zq0 zq0]
 have:(b.drop i).take 1=[(b[i].1,())]:=by
  rw[List.drop_eq_getElem_cons h];rfl
 rw[this]
 exact Bpd hr
theorem Byf {i n:Nat}:nI [] i n=0:=by
 unfold nI Wu
 split
 .rename_i h;simp at h;omega
 .rfl
theorem Akz {b:List YB} {i j n:Nat} (h:j=i+n):(b.take j).drop i=rI b i n:=by
 unfold rI;rw[h,List.drop_take];congr 1;omega
theorem Bmu {b:List YB} {i n:Nat} (h:b.length<=i+n):(b.take b.length).drop i=rI b i n:=by
 unfold rI
 rw[List.take_length,List.take_of_length_le zq1]
theorem A3n {f:Ap} (h:Bu f=true):f.1=1\/f.1=2\/f.1=3\/inR f.1 4 8=true:=by
 unfold Bu at h
 cases hs:inR f.1 4 8 with
 |true=>exact .inr (.inr (.inr rfl))
 |false=>
  rw[hs]at h
  simp only[cond_false,Bool.and_eq_true,beq_iff_eq]at h
  obtain⟨h1,h2,h3,h4,h5,h⟩:=h
  cases k1:f.1==1 with
  |true=>exact .inl (by simpa using k1)
  |false=>
   rw[k1]at h
   cases k2:f.1==2 with
   |true=>exact .inr (.inl (by simpa using k2))
   |false=>
    rw[k2]at h
    simp only[cond_false,Bool.and_eq_true,beq_iff_eq]at h
    exact .inr (.inr (.inl h.1))
theorem Bv6 {f:Ap} (h:Bu f=true):(D8 f).length=(if f.1=1 then 34 else if f.1=2 then 45 else if f.1=3 then 62 else 39+f.2.2.2.2.2.2.2.2.2.1.length):=by
 unfold D8
 rw[h]
 simp only[Bool.not_true,cond_false]
 by_cases k1:f.1=1
 .obtain⟨_,c⟩:=Auy h k1
  rw[if_pos k1,show(f.1==1)=true by simp[k1]]
  simp[c]
 rw[if_neg k1,show(f.1==1)=false by simpa using k1]
 by_cases k2:f.1=2
 .obtain⟨c1,c2,_,c4,_⟩:=Bif h k2
  rw[if_pos k2,show(f.1==2)=true by simp[k2]]
  simp[c1,c2,c4,Fi]
 rw[if_neg k2,show(f.1==2)=false by simpa using k2]
 by_cases k3:f.1=3
 .obtain⟨_,c1,c2,_,c4,c5⟩:=Pd h k3
  rw[if_pos k3,show(f.1==3)=true by simp[k3]]
  simp[c1,c2,c4,c5,Fi]
 rw[if_neg k3,show(f.1==3)=false by simpa using k3]
 have k4:inR f.1 4 8=true:=by
  rcases A3n h with q|q|q|q
  .exact(k1 q).elim
  .exact(k2 q).elim
  .exact(k3 q).elim
  .exact q
 unfold Bu at h
 rw[k4]at h
 simp only[cond_true,Bool.and_eq_true,beq_iff_eq]at h
 obtain⟨_,_,c3,_,_,_,_,_,_,c10⟩:=h
 simp[Fi]
 omega
theorem Bpk {f:Ap} {b:List YB} (hb:0<b.length) (h:Cv (D8 f) b=true):Bu f=true:=by
 cases hf:Bu f with
 |true=>rfl
 |false=>
  have:=Bd6 h
  unfold D8 at this
  rw[hf]at this
  simp at this
  omega
theorem A1f {b:List YB} (hb:0<b.length):(bif Cv (D8 (pI b)) b then(pI b,(true,()))else(f0,(false,())))=gI b:=by
 unfold gI
 cases hs:Cv (D8 (pI b)) b with
 |false=>rw[Bool.and_false]
 |true=>rw[Bpk hb hs];rfl
theorem Au1 {b:List YB} (h:Bu (pI b)=true->Cv (D8 (pI b)) b=true->False):gI b=(f0,(false,())):=by
 unfold gI
 cases h1:Bu (pI b)with
 |false=>rfl
 |true=>
  cases h2:Cv (D8 (pI b)) b with
  |false=>rfl
  |true=>exact(h h1 h2).elim
theorem A1g (b:List YB) (F:Ap) (hn:Av F<=536870912):(ob (Ft F) fun r3=>br (!(decide ((Ht r3.1)=(Ht b)))) (some (f0,(false,()))) (some (F,(true,()))))=some (bif Cv (D8 F) b then(F,(true,()))else(f0,(false,()))):=by
 rw[Aua F hn,Ac]
 show br (!(Cv (D8 F) b)) _ _=_
 cases Cv (D8 F) b<;>rfl
theorem Bpl (b:List YB) (hw:wfB b) (hl:b.length<=4000000):Aae (b,())=some (gI b):=by
 unfold Aae Aic
 simp only[Af,Ah,Aa,Ak,List.nil_append,List.length_nil,Nat.zero_add]
 by_cases h0:b.length=0
 .have hb:b=[]:=List.eq_nil_of_length_eq_zero h0
  subst hb
  rw[Au1 (fun h _=>?_)]
  .rfl
  .have e:pI []=f0:=by
    unfold pI
    rw[Byf];rfl
   rw[e]at h
   exact absurd h zq7
 have hb0:0<b.length:=by omega
 obtain⟨n0,m0⟩:=Bue hw hb0
 have hx0:=List.getElem?_eq_getElem hb0
 rw[C4 (by simp only[beq_eq_false_iff_ne,ne_eq];omega),show idx b (0:Int)=_ from B8 hx0,Ac,m0,<-n0]
 have slen: ∀i j,((b.take j).drop i).length<=4294967296:=fun i j=>by simp;omega
 have pk: ∀ {f:Ap},pI b=f->Bu f=true->Cv (D8 f) b=true->b.length=(if f.1=1 then 34 else if f.1=2 then 45 else if f.1=3 then 62 else 39+f.2.2.2.2.2.2.2.2.2.1.length):=fun _ h1 h2=>(Bd6 h2).symm.trans (Bv6 h1)
 cases k1:nI b 0 1==1 with
 |true=>
  have e:pI b=(nI b 0 1,nI b 1 1,rI b 2 12,[],0,[],[],0,0,[],[],()):=by unfold pI;rw[k1];rfl
  have k1':nI b 0 1=1:=by simpa using k1
  rw[A6]
  by_cases hlen:b.length=34
  .have hb1:1<b.length:=by omega
   obtain⟨n1,m1⟩:=Bue hw hb1
   rw[C4 (by simp[hlen]),show idx b (1:Int)=_ from B8 (List.getElem?_eq_getElem hb1),Ac,Ai zq0,Ay,Ai (slen _ _),Ay,m1,<-n1,show(b.take ((14:Int)).toNat).drop ((2:Int)).toNat=rI b 2 12 from Akz rfl]
   refine(A1g b _ ?_).trans ?_
   .simp only[Av,rI,List.length_nil,List.length_take,List.length_drop];omega
   .rw[<-e,A1f hb0]
  .rw[Dv zq1,Au1 (fun h1 h2=>?_)]
   .rfl
   .have:=pk rfl h1 h2
    rw[e]at this
    rw[if_pos k1']at this
    omega
 |false=>
 rw[Ao]
 cases k2:nI b 0 1==2 with
 |true=>
  have e:pI b=(nI b 0 1,0,rI b 1 12,rI b 13 12,nI b 25 4,rI b 29 16,[],0,0,[],[],()):=by unfold pI;rw[k1,k2];rfl
  have k2':nI b 0 1=2:=by simpa using k2
  rw[A6]
  by_cases hlen:b.length=45
  .have hg:nI b 25 4=(Wu b 25 4).1.1:=(A9f zq0 zq0).trans (Apx (b:=b) (i:=25) (n:=4) zq0 zq0).symm
   have hl32:b.length<=4294967296:=by omega
   rw[C4 (by simp[hlen]),Ai zq0,Ay,Ai (slen _ _),Ay,Ai zq0,Ay,Ai (slen _ _),Ay,Azt b 25 4 hl32,Ac,Ai zq0,Ay,Ai zq0,Ay,Ai (slen _ _),Ay,<-hg,show(b.take ((13:Int)).toNat).drop ((1:Int)).toNat=rI b 1 12 from Akz rfl,show(b.take ((25:Int)).toNat).drop ((13:Int)).toNat=rI b 13 12 from Akz rfl,show(b.take ((b.length:Int)).toNat).drop ((29:Int)).toNat=rI b 29 16 from Bmu zq0]
   refine(A1g b _ ?_).trans ?_
   .simp only[Av,rI,List.length_nil,List.length_take,List.length_drop];omega
   .rw[<-e,A1f hb0]
  .rw[Dv zq1,Au1 (fun h1 h2=>?_)]
   .rfl
   .have:=pk rfl h1 h2
    rw[e]at this
    rw[if_neg zq2,if_pos k2']at this
    omega
 |false=>
 rw[Ao]
 cases k3:nI b 0 1==3 with
 |true=>
  have e:pI b=(nI b 0 1,nI b 1 1,rI b 2 12,rI b 14 12,nI b 26 4,rI b 30 16,rI b 46 16,0,0,[],[],()):=by unfold pI;rw[k1,k2,k3];rfl
  have k3':nI b 0 1=3:=by simpa using k3
  rw[A6]
  by_cases hlen:b.length=62
  .have hb1:1<b.length:=by omega
   obtain⟨n1,m1⟩:=Bue hw hb1
   have hg:nI b 26 4=(Wu b 26 4).1.1:=(A9f zq0 zq0).trans (Apx (b:=b) (i:=26) (n:=4) zq0 zq0).symm
   have hl32:b.length<=4294967296:=by omega
   rw[C4 (by simp[hlen]),show idx b (1:Int)=_ from B8 (List.getElem?_eq_getElem hb1),Ac,Ai zq0,Ay,Ai (slen _ _),Ay,Ai zq0,Ay,Ai (slen _ _),Ay,Azt b 26 4 hl32,Ac,Ai zq0,Ay,Ai (slen _ _),Ay,Ay,Ai zq0,Ay,Ai (slen _ _),Ay,<-hg,m1,<-n1,show(b.take ((14:Int)).toNat).drop ((2:Int)).toNat=rI b 2 12 from Akz rfl,show(b.take ((26:Int)).toNat).drop ((14:Int)).toNat=rI b 14 12 from Akz rfl,show(b.take ((46:Int)).toNat).drop ((30:Int)).toNat=rI b 30 16 from Akz rfl,show(b.take ((b.length:Int)).toNat).drop ((46:Int)).toNat=rI b 46 16 from Bmu zq0]
   refine(A1g b _ ?_).trans ?_
   .simp only[Av,rI,List.length_nil,List.length_take,List.length_drop];omega
   .rw[<-e,A1f hb0]
  .rw[Dv zq1,Au1 (fun h1 h2=>?_)]
   .rfl
   .have:=pk rfl h1 h2
    rw[e]at this
    rw[if_neg zq2,if_neg zq2,if_pos k3']at this
    omega
 |false=>
 rw[Ao]
 have k1':nI b 0 1≠1:=by simpa using k1
 have k2':nI b 0 1≠2:=by simpa using k2
 have k3':nI b 0 1≠3:=by simpa using k3
 have eno:inR (nI b 0 1) 4 8=false->pI b=(nI b 0 1,0,[],[],0,[],[],0,0,[],[],()):=fun k4=>by unfold pI;rw[k1,k2,k3,k4];rfl
 have eyes:inR (nI b 0 1) 4 8=true->pI b=(nI b 0 1,0,[],rI b 1 12,0,[],[],nI b 13 4,nI b 17 6,rI b 39 41,rI b 23 16,()):=fun k4=>by unfold pI;rw[k1,k2,k3,k4];rfl
 have bad: ∀ {f:Ap},f.1=nI b 0 1->inR (nI b 0 1) 4 8=false->Bu f=true->False:=fun hf k4 h=>by
  rcases A3n h with q|q|q|q
  .exact k1' (hf.symm.trans q)
  .exact k2' (hf.symm.trans q)
  .exact k3' (hf.symm.trans q)
  .rw[hf,k4]at q;cases q
 by_cases hlen:b.length<39
 .rw[Ai zq0,A6,Au1 (fun h1 h2=>?_)]
  .rfl
  .have:=pk rfl h1 h2
   cases k4:inR (nI b 0 1) 4 8 with
   |false=>exact bad (by rw[eno k4]) k4 h1
   |true=>
    rw[eyes k4]at this
    rw[if_neg k1',if_neg k2',if_neg k3']at this
    omega
 .have hg1:nI b 13 4=(Wu b 13 4).1.1:=(A9f zq0 zq0).trans (Apx (b:=b) (i:=13) (n:=4) zq0 zq0).symm
  have hg2:nI b 17 6=(Wu b 17 6).1.1:=(A9f zq0 zq0).trans (Apx (b:=b) (i:=17) (n:=6) zq0 zq0).symm
  have hl32:b.length<=4294967296:=by omega
  rw[Bt zq0,Ao,Ai zq0,Ay,Ai (slen _ _),Ay,Azt b 13 4 hl32,Ac,Azt b 17 6 hl32,Ac,Ai zq0,Ay,Ai (slen _ _),Ay,Ay,Ai zq0,Ay,Ai (slen _ _),Ay,<-hg1,<-hg2,show(b.take ((13:Int)).toNat).drop ((1:Int)).toNat=rI b 1 12 from Akz rfl,show(b.take ((39:Int)).toNat).drop ((23:Int)).toNat=rI b 23 16 from Akz rfl,show(b.take ((b.length:Int)).toNat).drop ((39:Int)).toNat=b.drop 39 by simp]
  refine(A1g b _ ?_).trans ?_
  .simp only[Av,rI,List.length_nil,List.length_take,List.length_drop];omega
  .cases k4:inR (nI b 0 1) 4 8 with
   |false=>
    rw[Au1 (fun h1 h2=>bad (by rw[eno k4]) k4 h1)]
    cases hs:Cv (D8 (nI b 0 1,(0:Int),([]:List YB),rI b 1 12,(0:Int),([]:List YB),([]:List YB),nI b 13 4,nI b 17 6,b.drop 39,rI b 23 16,())) b with
    |false=>rfl
    |true=>exact(bad rfl k4 (Bpk hb0 hs)).elim
   |true=>
    by_cases h80:b.length<=80
    .have:b.drop 39=rI b 39 41:=by unfold rI;rw[List.take_of_length_le zq1]
     rw[this,<-eyes k4,A1f hb0]
    .have big: ∀ {f:Ap},f.1=nI b 0 1->40<f.2.2.2.2.2.2.2.2.2.1.length->Bu f=true->False:=fun hf hlen h=>by
      obtain⟨_,_,_,c,_⟩:=Ui h (by rw[hf];exact k4)
      have:=Bd4 c
      omega
     rw[Au1 (fun h1 h2=>big (by rw[eyes k4]) (by rw[eyes k4];simp[rI];omega) h1)]
     cases hs:Cv (D8 (nI b 0 1,(0:Int),([]:List YB),rI b 1 12,(0:Int),([]:List YB),([]:List YB),nI b 13 4,nI b 17 6,b.drop 39,rI b 23 16,())) b with
     |false=>rfl
     |true=>exact(big rfl zq1 (Bpk hb0 hs)).elim
theorem Bv7 (x:Az) (h:Av (frO x)<=536870912):Agb (x.2.2.1,x.2.2.2.1,x.2.2.2.2.1,x.2.2.2.2.2.1,x.2.2.2.2.2.2.1,x.2.2.2.2.2.2.2.1,x.2.2.2.2.2.2.2.2.1,x.2.2.2.2.2.2.2.2.2.1,x.2.2.2.2.2.2.2.2.2.2.1,x.2.2.2.2.2.2.2.2.2.2.2.1,x.2.2.2.2.2.2.2.2.2.2.2.2.1,())=some (szO x,()):=Bt6 (frO x) h
theorem Buf (X:Bc) (frames:List Az) (hcr:Cr X.2.2.2.2.2.2.1=true) (hl:frames.length<=200000000) (hfr:Kk frames) (hT:X.2.2.2.2.2.1.length<=4294967296):
  Db X (frames,())=some (((Gi (X.2.2.2.2.1,X.2.2.2.2.2.1,()) frames X.2.2.2.2.2.2.1).1,()),(X.1,X.2.1,X.2.2.1,X.2.2.2.1,X.2.2.2.2.1,X.2.2.2.2.2.1,(Gi (X.2.2.2.2.1,X.2.2.2.2.2.1,()) frames X.2.2.2.2.2.2.1).2,())):=by
 obtain⟨x1,x2,x3,x4,cap,l,cr,⟨⟩⟩:=X
 dsimp only at hcr hT ⊢
 have e:=Cs (B:=On) frames.length (fun i=>(frames,(Gi (cap,l,()) (frames.take i) cr).1,(i:Int),x1,x2,x3,x4,cap,l,(Gi (cap,l,()) (frames.take i) cr).2,())) ((Gi (cap,l,()) frames cr).1,x1,x2,x3,x4,cap,l,(Gi (cap,l,()) frames cr).2,())
  (fun i hi=>by
   have hx:=List.getElem?_eq_getElem hi
   have hxm:=List.getElem_mem hi
   have htk:frames.take (i+1)=frames.take i++[frames[i]]:=by rw[List.take_add_one,hx];rfl
   rw[htk,A9c]
   obtain⟨_,_,f3,f4,_⟩:=A5u (t:=(cap,l,())) (l:=frames.take i) hcr
   have hc8:=(D3.1 hcr).1
   have hfo:=(hfr _ hxm).1
   have hfn:=Kx hfo
   have f5:(frames.take i).length<=i:=by simp;omega
   generalize Gi (cap,l,()) (frames.take i) cr=p at f3 f4
   generalize frames[i]=x at hx hxm hfo hfn
   obtain⟨ou,cc⟩:=p
   dsimp only at f3 f4
   unfold On Gn
   simp only[Af,Ah,Aa,Ak]
   rw[Ai zq0,A6,B8 hx,Ac,Bq1 _ _ hT,Ac,w64 (n:=(i:Int)+1) zq0]
   dsimp only
   cases Ank (cap,l,()) (x.1,x.2.1,())with
   |true=>
    simp only[Bool.not_true,Ao,cond_true,Ac]
    rw[Ai zq1,Ay]
    rfl
   |false=>
    simp only[Bool.not_false,A6,cond_false,Ac]
    rw[Bv7 x (Nat.le_trans hfn zq7),Ac,Bt3 cc (x.1,x.2.1,()) _ zq0,Ac]
    dsimp only
    cases Vm cc (x.1,x.2.1,()) (szO x)with
    |none=>rfl
    |some r=>
     dsimp only
     rw[Ai zq1]
     rfl)
  (by
   rw[List.take_length]
   unfold On
   simp only[Af,Ah,Aa,Ak]
   rw[Bt zq0,Ao])
 have e0:Gi (cap,l,()) (frames.take 0) cr=([],cr):=by rw[List.take_zero];rfl
 rw[e0]at e
 unfold Db Ata
 simp only[Af,Ah,Aa,Ak]
 rw[show A0 On (frames,([]:List Az),(0:Int),x1,x2,x3,x4,cap,l,cr,())=_ from e,Ac]
theorem An0 (b:List YB) (h:b.length<=4294967296):Qr (b,())=some (Agw b):=by
 unfold Qr Ae4
 simp only[Ah,Aa,Ak,List.nil_append,List.length_nil,Nat.zero_add]
 rw[Ai h];rfl
theorem Bxe (a0:Bc) (a1:YI) (a2:A8) (a3:YBs):Abw a0 a1 a2 a3=(T4 a0 a1 a2 a3).val:=rfl
def Ak0 (X:Bc) (os:List Az):Bc:=(X.1,X.2.1,X.2.2.1,X.2.2.2.1,X.2.2.2.2.1,X.2.2.2.2.2.1,(Gi (X.2.2.2.2.1,X.2.2.2.2.2.1,()) os X.2.2.2.2.2.2.1).2,())
def Agh (X:Bc) (os:List Az):List Az:=(Gi (X.2.2.2.2.1,X.2.2.2.2.2.1,()) os X.2.2.2.2.2.2.1).1
def A0k (S:Bc) (fin init:Bool) (I R:Option (Bc×((List Az)×Unit)×((List Aq)×Unit))):Prop:=
 ∃X os ns,I=some (X,(os,()),(ns,()))/\Mid S X os ns fin init/\R=some (Ak0 X os,(Agh X os,()),(ns,()))
theorem A0k.none {S:Bc} {fin init:Bool} (hs:Ej S=true):A0k S fin init (some (S,(([]:List Az),()),(([]:List Aq),()))) (some (S,(([]:List Az),()),(([]:List Aq),()))):=
 ⟨S,[],[],rfl,Mid.none hs,rfl⟩
theorem Xf {S X:Bc} {os:List Az} {ns:List Aq} {fin init:Bool} (h:Mid S X os ns fin init) (hn:Bh S<=4000000):Db X (os,())=some ((Agh X os,()),Ak0 X os):=by
 obtain⟨⟨m1,m2,m2'⟩,⟨m3,m4⟩,m5,⟨m6,_,m7⟩,m8,m9,m10⟩:=h
 obtain⟨a1,a2,a3,a4,a5,a6,a7⟩:=Ep.1 m1
 have n2:Bh X=X.1.length+Br Ec X.1+X.2.1.length+X.2.2.1.length+(Bw X).length+Br A5 (Bw X)+(Kg X).length:=rfl
 exact Buf X os a5 m3 m2 (by show(Bw X).length<=_;omega)
theorem Bv8 (S:Bc) (n:YI) (a:A8) (f:Ap) (c0:List An) (hs:Ej S=true) (hn:Bh S<=4000000) (ha:Cq a=true) (ht:inR n.1 0 1000000=true) (hf:Bu f=true) (hk:f.1=1):
  A0k S false true (Sx S n a f) (Ba7 (S.1,S.2.1,S.2.2.1,S.2.2.2.1,S.2.2.2.2.1,S.2.2.2.2.2.1,c0,()) n a (S.1,S.2.1,S.2.2.1,S.2.2.2.1,S.2.2.2.2.1,S.2.2.2.2.2.1,c0,()) (S.2.2.2.2.2.2.1,()) f).val:=by
 have hmid:=Bua S n a f hs hn ha ht hf hk
 obtain⟨a1,a2,a3,a4,a5,a6,a7⟩:=Ep.1 hs
 obtain⟨i1,i2⟩:=Auy hf hk
 have hcr:=(D3.1 a5).1
 have hj:S.2.1.length=32:=by simp only[beq_iff_eq]at a2;omega
 have hsd:S.2.2.1.length<=32:=by
  unfold G3 at a3
  simp only[Bool.and_eq_true,Bx]at a3
  omega
 have hdN:0<=S.2.2.2.1/\S.2.2.2.1<=10000:=by
  unfold G3 at a3
  simp only[Bool.and_eq_true,Bx]at a3
  omega
 unfold Sx Zp at hmid ⊢
 unfold Ba7
 simp only[Af,Ah,Aa,Ak,List.nil_append,List.length_nil,Nat.zero_add]at hmid ⊢
 by_cases hid:f.2.1>(S.1.length:Int)
 .rw[Ai hid,A6,A6];exact A0k.none hs
 rw[Bt hid,Ao]at hmid
 rw[Bt hid,Ao,Ao]
 rw[Ai6 S a _ zq0,Ac]at hmid
 rw[Ai6 S a _ zq0,Ac,show Uc (S.1,S.2.1,S.2.2.1,S.2.2.2.1,S.2.2.2.2.1,S.2.2.2.2.2.1,S.2.2.2.2.2.2.1,()) a ((45:Int),())=_ from Bhl S a ((45:Int),()) zq0,Ac]
 cases hask:Api S a (45:Int)with
 |false=>exact A0k.none hs
 |true=>
 rw[hask]at hmid
 simp only[Bool.not_true,Ao]at hmid ⊢
 by_cases hN:S.2.2.2.1≥(10000:Int)
 .rw[Ai hN,A6,Dv (by simp only[beq_iff_eq];omega)];exact A0k.none hs
 rw[Bt hN,Ao]at hmid
 rw[Bt hN,Ao,C4 (by simp only[beq_eq_false_iff_ne,ne_eq];omega)]
 have hroll:Fv (S.2.2.1,S.2.2.2.1,())=((S.2.2.1,S.2.2.2.1+1,()),S6 S.2.2.1 S.2.2.2.1):=by
  unfold Fv;rw[if_pos ⟨a3,by dsimp only;omega⟩]
 have h12:=Bd2 a3
 rw[Az0 _ zq2,hroll,Ac]at hmid
 rw[Az0 _ zq2,Bhz _ zq2,hroll,Ac,Ac]
 obtain⟨n,⟨⟩⟩:=n
 dsimp only at ht hmid ⊢
 have hb:=Nh (a:=a) (id:=f.2.1) (t:=n) i2 h12
 rw[Aje S.2.1 a f.2.1 f.2.2.1 _ n hj ha i1 i2 h12 ht,Ac,Cb _ zq2,Ac,Cb _ zq2,Ac,Ab5 a f.2.1 f.2.2.1 _ n ha i1 i2 h12 ht,Ac,A84 _ _ zq0 zq0,Ac,Aat _ zq0,Ac]at hmid
 rw[Aje S.2.1 a f.2.1 f.2.2.1 _ n hj ha i1 i2 h12 ht,Ac,Cb _ zq2,Ac,Cb _ zq2,Ac,Ab5 a f.2.1 f.2.2.1 _ n ha i1 i2 h12 ht,Ac,A84 _ _ zq0 zq0,Ac,Aat _ zq0,Ac]
 obtain⟨r,hr,hm⟩:=hmid
 simp only[Option.some.injEq]at hr
 subst hr
 refine⟨_,_,_,rfl,hm,?_⟩
 rw[Ai zq0,Ay,A5t S.2.1 a f.2.1 f.2.2.1 _ n hj ha i1 i2 h12 ht,Ac,An0 _ zq0,Ac,Aux a f.2.1 f.2.2.1 _ n ha i1 i2 h12 ht,Ac,Brm _ _ zq0 zq0,Ac,Ai zq3,Ay,Ai zq3,Ay]
 have ho:=Xf hm hn
 dsimp only at ho ⊢
 rw[ho,Ac]
theorem Bsf {X:Bc} {i:Int} {x:Al} {ns0:List Aq} {S Y:Bc} {os:List Az} {ns:List Aq} {fin init:Bool} (hX:Ej X=true) (hn:Bh X<=5000000) (h0:0<=i) (hx:(Bw X)[i.toNat]? =some x) (hd:Dd x=false) (hnl:ns0.length<=100) (hS:Bh S<=4000000)
  (hr:(ob (K7 x) fun r19=>ob (Ho (X.2.2.2.2.1,Bw X,()) (i,()) r19.1) fun r20=>chk (decide (ns0.length+r19.2.2.1.length<=4294967296)) (some ((X.1,X.2.1,X.2.2.1,X.2.2.2.1,r20.1.1,r20.1.2.1,Kg X,()),r19.2.1,((ns0++r19.2.2.1),()))))=some (Y,(os,()),(ns,()))) (hm:Mid S Y os ns fin init):
  (ob (Vi x) fun r29=>ob (some x) fun _=>chk (decide (([]:List Az).length+r29.2.1.1.length<=4294967296)) (chk (decide (ns0.length+r29.2.2.1.length<=4294967296)) (ob (Db (X.1,X.2.1,X.2.2.1,X.2.2.2.1,X.2.2.2.2.1,(Bw X).set i.toNat r29.1,Kg X,()) ((([]:List Az)++r29.2.1.1),())) fun r32=>some (r32.2,r32.1,((ns0++r29.2.2.1),())))))=some (Ak0 Y os,(Agh Y os,()),(ns,())):=by
 obtain⟨a1,a2,a3,a4,a5,a6,a7⟩:=Ep.1 hX
 have hxm:x∈Bw X:=List.mem_of_getElem? hx
 have hsm:A5 x<=Br A5 (Bw X):=Tb (f:=A5) hxm
 have e2:Bh X=X.1.length+Br Ec X.1+X.2.1.length+X.2.2.1.length+(Bw X).length+Br A5 (Bw X)+(Kg X).length:=rfl
 have ho:Dk x=true:=((Xe (by show(Bw X).length<=_;omega)).1 a4).2.2.2.1 x hxm
 obtain⟨r,os1,ns1,r1,rs,r3,r4,r5,r6⟩:=A85 x zq0
 obtain⟨r7,r8,r9⟩:=r6 ho hd
 have hnt:Cf (X.2.2.2.2.1,Bw X,())<=5000000:=by simp only[Cf];omega
 obtain⟨p1,_,_⟩:=Bf3 (t:=(X.2.2.2.2.1,Bw X,())) (y:=r) zq0 a4 h0 hx r7 r8 (by rw[r9,hd])
 rw[r1,Ac,p1,Ac,Ai zq2,Ay]at hr
 simp only[Option.some.injEq,Prod.mk.injEq,and_true]at hr
 obtain⟨rfl,rfl,rfl⟩:=hr
 have hout:=Xf hm hS
 rw[rs,Ac,Ac,Ai zq1,Ai zq2,Ay,Ay,List.nil_append]
 dsimp only at hout ⊢
 rw[hout,Ac]
theorem Bxf (S:Bc) (n:YI) (a:A8) (f:Ap) (c0:List An) (hs:Ej S=true) (hn:Bh S<=4000000):
  A0k S true false (Oq S n a f) (Bhf (S.1,S.2.1,S.2.2.1,S.2.2.2.1,S.2.2.2.2.1,S.2.2.2.2.2.1,c0,()) n a (S.1,S.2.1,S.2.2.1,S.2.2.2.1,S.2.2.2.2.1,S.2.2.2.2.2.1,c0,()) (S.2.2.2.2.2.2.1,()) f).val:=by
 obtain⟨⟨X,⟨os,⟨⟩⟩,⟨ns,⟨⟩⟩⟩,hr,hm⟩:=Bv4 S n a f hs hn
 dsimp only at hm
 refine⟨X,os,ns,hr,hm,?_⟩
 obtain⟨a1,a2,a3,a4,a5,a6,a7⟩:=Ep.1 hs
 have e2:Bh S=S.1.length+Br Ec S.1+S.2.1.length+S.2.2.1.length+(Bw S).length+Br A5 (Bw S)+(Kg S).length:=rfl
 have hj:S.2.1.length=32:=by simp only[beq_iff_eq]at a2;omega
 have hnt:Cf (S.2.2.2.2.1,S.2.2.2.2.2.1,())<=4000000:=by
  show(Bw S).length+Br A5 (Bw S)<=_
  omega
 have leafN:some (S,(([]:List Az),()),(([]:List Aq),()))=some (X,(os,()),(ns,()))->some (S,(([]:List Az),()),(([]:List Aq),()))=some (Ak0 X os,(Agh X os,()),(ns,())):=fun h=>by
  simp only[Option.some.injEq,Prod.mk.injEq,and_true]at h
  obtain⟨rfl,rfl,rfl⟩:=h
  rfl
 unfold Oq Tx at hr
 unfold Bhf
 simp only[Af,Ah,Aa,Ak]at hr ⊢
 obtain⟨k,k1,k2,k3⟩:=Bt7 S.2.1 n a f
 rw[k1,Ac]at hr
 rw[k2,Ac]
 cases hk0:(k != (0:Int))with
 |true=>rw[hk0]at hr;exact leafN hr
 |false=>
 rw[hk0,Ao]at hr
 rw[Ao]
 by_cases hid:f.2.1>(S.1.length:Int)
 .rw[Ai hid]at hr ⊢;exact leafN hr
 rw[Bt hid,Ao]at hr ⊢
 have hk0:k=0:=by simpa using hk0
 obtain⟨_,ht,ha,hk,hf⟩:=k3 hk0
 obtain⟨c1,c2,c3,c4,c5,c6⟩:=Pd hf hk
 obtain⟨⟨e,⟨⟩⟩,he,hpsk⟩:=Bse hs c1 zq0
 obtain⟨pk,pk1,pk2⟩:=Bph e f
 rw[he,Ac,pk1,Ac]at hr
 rw[he,Ac,pk2,Ac]
 cases pk with
 |false=>exact leafN hr
 |true=>
 simp only[Bool.not_true,Ao]at hr ⊢
 have hTl:(S.2.2.2.2.1,S.2.2.2.2.2.1,()).2.1.length<=4294967296:=by show(Bw S).length<=_;omega
 rw[Pt _ _ hTl,Ac]at hr
 rw[At9 _ _ hTl,Ac]
 by_cases hneg:Es S.2.2.2.2.2.1 f.2.2.2.1<0
 .rw[Ai hneg,A6,Ac]at hr
  rw[Ai hneg,A6,Ac]
  obtain⟨r6,n1,s1,s2,s3,s4,s5,s6,s7⟩:=A0j e n a f hpsk ht ha hf hk
  obtain⟨r6',m1,m2,_⟩:=A80 (e,()) n a f (by have:=Kx hf;omega)
  have hrr:r6'=r6:=Option.some.inj (m1.symm.trans n1)
  subst hrr
  rw[n1,Ac]at hr
  rw[m2,Ac]
  obtain⟨t,b,t1,t2,_⟩:=A8z (S.2.2.2.2.1,S.2.2.2.2.2.1,()) r6' zq0
  obtain⟨⟨t',b',⟨⟩⟩,t3,h7⟩:=Bo5 (S.2.2.2.2.1,S.2.2.2.2.2.1,()) r6' zq0
  rw[t1]at t3
  simp only[Option.some.injEq,Prod.mk.injEq,and_true]at t3
  obtain⟨rfl,rfl⟩:=t3
  rw[t1,Ac]at hr
  rw[t2,Ac]
  dsimp only at h7 hr ⊢
  cases hb0:(b != (0:Int))with
  |true=>rw[hb0]at hr;exact leafN hr
  |false=>
  rw[hb0,Ao]at hr
  rw[Ao]
  have h0:b=0:=by simpa using hb0
  obtain⟨q1,q2,q3,q4⟩:=Br7 hTl h7 h0
  obtain⟨_,_,_,_,_,_,q5⟩:=h7.2 h0
  subst q5
  have hfk:=Az8 hpsk
  have hpb:(H3 f.2.1 f.2.2.1 f.2.2.2.1 f.2.2.2.2.1 f.2.2.2.2.2.1).length<=46:=by rw[Awo];cases S8 f.2.1 f.2.2.1 f.2.2.2.1 f.2.2.2.2.1 f.2.2.2.2.2.1<;>simp
  have hmb:=Nh (a:=a) (id:=f.2.1) (t:=f.2.2.2.2.1) c2 c3
  rw[Ab5 a f.2.1 f.2.2.1 f.2.2.2.1 f.2.2.2.2.1 ha c1 c2 c3 c4,Ac,Apr _ _ _ zq0 zq0 zq0,Ac,Anx,Ac,Any,Ac,Apr _ _ _ zq0 zq0 zq0,Ac,Cb _ zq2,Ac,Cb _ zq2,Ac,Cb _ zq2,Ac,Ai zq3,Ay]at hr
  rw[Aux a f.2.1 f.2.2.1 f.2.2.2.1 f.2.2.2.2.1 ha c1 c2 c3 c4,Ac,Bie _ _ _ zq0 zq0 zq0,Ac,Ai zq3,Ay,Ac,A3e,Ac,A3f,Ac,Bie _ _ _ zq0 zq0 zq0,Ac,Ai zq3,Ay,Ai zq1,Ay,Ai zq1,Ay,Ai zq1,Ay,Ai zq3,Ay]
  have hfs:Es (S.2.2.2.2.2.1++[r6']) f.2.2.2.1=((Bw S).length:Int):=by rw[<-s5];exact q3
  have hgx:(S.2.2.2.2.2.1++[r6'])[(((Bw S).length:Nat):Int).toNat]? =some r6':=by simp[Bw]
  have hidx:idx (S.2.2.2.2.2.1++[r6']) (((Bw S).length:Nat):Int)=some r6':=by unfold idx;rw[if_pos zq0];exact hgx
  have hlast:IntKind.i64.wrap ((((S.2.2.2.2.2.1++[r6']).length:Nat):Int)-1)=(((Bw S).length:Nat):Int):=by
   have:(S.2.2.2.2.2.1++[r6']).length=(Bw S).length+1:=by simp[Bw]
   rw[this,w64 zq0];omega
  have hd2:r6'.2.2.2.2.2.2.2.2.2.2.2.2.2.2.2.2.2.2.2.2.2.2.2.1=false:=s2
  have hsm:Cv r6'.2.1 f.2.2.1=true:=by rw[s4];exact Nb _
  rw[Pt _ _ (by show(Bw S++[r6']).length<=_;simp;omega),Ac,hfs,hidx,Ac,C4 hd2,C4 (by simp[s3]),Gk,Ac,hsm,C4 (by rfl)]at hr
  rw[hlast,hidx,Ac,hd2,Bool.not_false,A6,Dv (by simp[s3]),S1,Ac,hsm,A6]
  have hXn:Bh (S.1,S.2.1,S.2.2.1,S.2.2.2.1,S.2.2.2.2.1,S.2.2.2.2.2.1++[r6'],S.2.2.2.2.2.2.1,())<=5000000:=by
   show S.1.length+Br Ec S.1+S.2.1.length+S.2.2.1.length+(Bw S++[r6']).length+Br A5 (Bw S++[r6'])+(Kg S).length<=5000000
   rw[Pu,List.length_append];simp[Br];omega
  have hXo:Ej (S.1,S.2.1,S.2.2.1,S.2.2.2.1,S.2.2.2.2.1,S.2.2.2.2.2.1++[r6'],S.2.2.2.2.2.2.1,())=true:=Ep.2 ⟨a1,a2,a3,q1,a5,a6,fun z hz=>by
   rcases List.mem_append.1 hz with hz|hz
   .exact a7 z hz
   .rw[List.mem_singleton.1 hz,s3];show f.2.1<=(S.1.length:Int);omega⟩
  exact Bsf (S:=S) hXo hXn zq0 hgx s2 zq3 hn hr hm
 .rw[Bt hneg,Ao,Ac]at hr
  rw[Bt hneg,Ao]
  obtain⟨x,hx,hix⟩:=Agg (l:=S.2.2.2.2.2.1) (s:=f.2.2.2.1) (Int.not_lt.1 hneg)
  have hno:Db (S.1,S.2.1,S.2.2.1,S.2.2.2.1,S.2.2.2.2.1,S.2.2.2.2.2.1,S.2.2.2.2.2.2.1,()) (([]:List Az),())=some ((([]:List Az),()),S):=Xf (Mid.none (S:=S) (fin:=true) (init:=true) hs) hn
  rw[hix,Ac]at hr
  rw[hix,Ac]
  cases hd:Dd x with
  |true=>
   have hd2:x.2.2.2.2.2.2.2.2.2.2.2.2.2.2.2.2.2.2.2.2.2.2.2.1=true:=hd
   rw[Dv hd2]at hr
   rw[hd2,Bool.not_true,Ao,hno,Ac]
   exact leafN hr
  |false=>
  have hd2:x.2.2.2.2.2.2.2.2.2.2.2.2.2.2.2.2.2.2.2.2.2.2.2.1=false:=hd
  rw[C4 hd2]at hr
  rw[hd2,Bool.not_false,A6]
  by_cases hxi:x.1=f.2.1
  case neg=>
   rw[Dv (by simpa using hxi)]at hr
   rw[C4 (by simpa using hxi),hno,Ac]
   exact leafN hr
  case pos=>
  rw[C4 (by simp[hxi]),Gk,Ac]at hr
  rw[Dv (by simp[hxi]),S1,Ac]
  cases hsm:Cv x.2.1 f.2.2.1 with
  |false=>
   rw[hsm]at hr
   rw[Ao,hno,Ac]
   exact leafN hr
  |true=>
  rw[hsm]at hr
  simp only[Bool.not_true,Ao]at hr
  rw[A6]
  exact Bsf (S:=S) (X:=S) (ns0:=[]) hs zq0 (Int.not_lt.1 hneg) hx hd zq3 hn hr hm
theorem Bv9 (S:Bc) (n:YI) (a:A8) (f:Ap) (c0:List An) (hs:Ej S=true) (hn:Bh S<=4000000) (ha:Cq a=true) (ht:inR n.1 0 1000000=true) (hf:Bu f=true) (hk:inR f.1 4 8=true) (w1:wfB f.2.2.2.1) (w2: ∀x∈Bw S,wfB (Cj x).2.1):
  A0k S false false (Ki S n a f) (Ba8 (S.1,S.2.1,S.2.2.1,S.2.2.2.1,S.2.2.2.2.1,S.2.2.2.2.2.1,c0,()) n a (S.1,S.2.1,S.2.2.1,S.2.2.2.1,S.2.2.2.2.1,S.2.2.2.2.2.1,c0,()) (S.2.2.2.2.2.2.1,()) f).val:=by
 obtain⟨⟨X,⟨os,⟨⟩⟩,⟨ns,⟨⟩⟩⟩,hr,hm⟩:=Buc S n a f hs hn ha ht hf hk w1 w2
 dsimp only at hm
 refine⟨X,os,ns,hr,hm,?_⟩
 obtain⟨a1,a2,a3,a4,a5,a6,a7⟩:=Ep.1 hs
 have e2:Bh S=S.1.length+Br Ec S.1+S.2.1.length+S.2.2.1.length+(Bw S).length+Br A5 (Bw S)+(Kg S).length:=rfl
 have hnt:Cf (S.2.2.2.2.1,S.2.2.2.2.2.1,())<=4000000:=by
  show(Bw S).length+Br A5 (Bw S)<=_
  omega
 have hfn:=Kx hf
 have hbody:=Ui hf hk
 have leafN:some (S,(([]:List Az),()),(([]:List Aq),()))=some (X,(os,()),(ns,()))->some (S,(([]:List Az),()),(([]:List Aq),()))=some (Ak0 X os,(Agh X os,()),(ns,())):=fun h=>by
  simp only[Option.some.injEq,Prod.mk.injEq,and_true]at h
  obtain⟨rfl,rfl,rfl⟩:=h
  rfl
 have hr2:=Bhy (S.2.2.1,S.2.2.2.1,())
 unfold Ki Nz at hr
 unfold Ba8
 simp only[Af,Ah,Aa,Ak]at hr ⊢
 have hTl:(S.2.2.2.2.1,S.2.2.2.2.2.1,()).2.1.length<=4294967296:=by show(Bw S).length<=_;omega
 rw[Pt _ _ hTl,Ac]at hr
 rw[At9 _ _ hTl,Ac]
 by_cases hneg:Es S.2.2.2.2.2.1 f.2.2.2.1<0
 .rw[Ai hneg]at hr ⊢;exact leafN hr
 rw[Bt hneg,Ao]at hr ⊢
 obtain⟨x,hx,hix⟩:=Agg (l:=S.2.2.2.2.2.1) (s:=f.2.2.2.1) (Int.not_lt.1 hneg)
 have hxm:x∈Bw S:=List.mem_of_getElem? hx
 have hsm:A5 x<=Br A5 (Bw S):=Tb (f:=A5) hxm
 have ho:Dk x=true:=((Xe (by show(Bw S).length<=_;omega)).1 a4).2.2.2.1 x hxm
 rw[hix,Ac]at hr
 rw[hix,Ac]
 cases hd:Dd x with
 |true=>
  have hd2:x.2.2.2.2.2.2.2.2.2.2.2.2.2.2.2.2.2.2.2.2.2.2.2.1=true:=hd
  rw[Dv hd2]at hr ⊢;exact leafN hr
 |false=>
 have hd2:x.2.2.2.2.2.2.2.2.2.2.2.2.2.2.2.2.2.2.2.2.2.2.2.1=false:=hd
 rw[C4 hd2]at hr ⊢
 rw[Az0 _ zq2,Ac,Ai6 S a _ zq0,Ac]at hr
 rw[Bhz _ zq2,Ac,show Uc (S.1,S.2.1,S.2.2.1,S.2.2.2.1,S.2.2.2.2.1,S.2.2.2.2.2.1,S.2.2.2.2.2.2.1,()) a ((51:Int),())=_ from Bhl S a ((51:Int),()) zq0,Ac]
 have key: ∀(d:List YB),d.length<=12->
   (ob (some x) fun e5=>ob (Jn e5 n a f (d,())) fun r6=>ob (Ho (S.2.2.2.2.1,S.2.2.2.2.2.1,()) (Es S.2.2.2.2.2.1 f.2.2.2.1,()) r6.1) fun r7=>br r6.2.2.2.1 (ob (Bq (f.2.2.2.1,())) fun r8=>ob (Bq (d,())) fun r9=>ob (L0 (d,())) fun r10=>chk (decide ([r10].length+r6.2.2.1.1.length<=4294967296)) (chk (decide (([r10]++r6.2.2.1.1).length+[((7:Int),(0:Int),(0:Int),([]:List YB),r8.1,(0:Int),(0:Int),r9.1,([]:List YB),a.1,a.2.1,n.1,())].length<=4294967296)) (some ((S.1,S.2.1,(Fv (S.2.2.1,S.2.2.2.1,())).1.1,(Fv (S.2.2.1,S.2.2.2.1,())).1.2.1,r7.1.1,r7.1.2.1,S.2.2.2.2.2.2.1,()),r6.2.1,((([r10]++r6.2.2.1.1)++[((7:Int),(0:Int),(0:Int),([]:List YB),r8.1,(0:Int),(0:Int),r9.1,([]:List YB),a.1,a.2.1,n.1,())]),()))))) (some ((S.1,S.2.1,S.2.2.1,S.2.2.2.1,r7.1.1,r7.1.2.1,S.2.2.2.2.2.2.1,()),r6.2.1,r6.2.2.1)))=some (X,(os,()),(ns,()))->
   ∃r ms k,Sz x n a f (d,())=some (r,(os,()),(ms,()),(k,()))/\os.length<=100000000/\ms.length<=100000000/\(k=true->X=(S.1,S.2.1,(Fv (S.2.2.1,S.2.2.2.1,())).1.1,(Fv (S.2.2.1,S.2.2.2.1,())).1.2.1,S.2.2.2.2.1,S.2.2.2.2.2.1.set (Es S.2.2.2.2.2.1 f.2.2.2.1).toNat r,S.2.2.2.2.2.2.1,())/\ns=([Agw d]++ms)++[((7:Int),(0:Int),(0:Int),([]:List YB),f.2.2.2.1,(0:Int),(0:Int),d,([]:List YB),a.1,a.2.1,n.1,())])/\(k=false->X=(S.1,S.2.1,S.2.2.1,S.2.2.2.1,S.2.2.2.2.1,S.2.2.2.2.2.1.set (Es S.2.2.2.2.2.1 f.2.2.2.1).toNat r,S.2.2.2.2.2.2.1,())/\ns=ms):=fun d hdl h=>by
  obtain⟨r,os1,ms,k,r1,rs,r3,r4,r5⟩:=A3g x n a f (d,()) zq0 zq0 zq2 w1 (w2 x hxm)
  dsimp only at r4 r5
  have hW:=Bsc x n a f (d,()) zq0 zq0 w1 (w2 x hxm) ho hd hdl r1
  have hg:Dk r=true/\r.2.2.1=x.2.2.1/\Dd r=false:=by
   rcases hW with⟨rfl,rfl,rfl,rfl⟩|⟨g1,g2,g3,g4,g5,g6,_⟩
   .exact⟨ho,rfl,hd⟩
   .exact⟨g1,g5,g6⟩
  obtain⟨p1,_,_⟩:=Bf3 (t:=(S.2.2.2.2.1,S.2.2.2.2.2.1,())) (y:=r) zq0 a4 (Int.not_lt.1 hneg) hx hg.1 hg.2.1 (by rw[hg.2.2,hd])
  have hosl:os1.length<=100000000:=by omega
  have hnsl:ms.length<=100000000:=by omega
  rw[Ac,r1,Ac,p1,Ac]at h
  cases k with
  |true=>
   dsimp only at h
   rw[A6,Cb _ zq2,Ac,Cb _ zq2,Ac,Aat _ zq0,Ac,Ai Aai,Ay,Ai Aai,Ay]at h
   simp only[Option.some.injEq,Prod.mk.injEq,and_true]at h
   obtain⟨rfl,rfl,rfl⟩:=h
   exact⟨r,ms,true,rs,hosl,hnsl,fun _=>⟨rfl,rfl⟩,fun h=>by cases h⟩
  |false=>
   dsimp only at h
   rw[Ao]at h
   simp only[Option.some.injEq,Prod.mk.injEq,and_true]at h
   obtain⟨rfl,rfl,rfl⟩:=h
   exact⟨r,ms,false,rs,hosl,hnsl,(fun h=>by cases h),fun _=>⟨rfl,rfl⟩⟩
 cases hask:Api S a (51:Int)with
 |false=>
  rw[hask]at hr
  simp only[Bool.not_false,A6]at hr ⊢
  obtain⟨r,ms,k,rs,hl1,hl2,ht1,hf1⟩:=key [] zq3 hr
  rw[Ac,rs,Ac,Ac]
  dsimp only
  simp only[List.nil_append]
  rw[Ai Aai,Ay]
  cases k with
  |true=>
   obtain⟨rfl,rfl⟩:=ht1 rfl
   have hout:=Xf hm hn
   rw[A6,An0 _ (by first|omega|simp),Ac,Ai zq3,Ay,Ai Aai,Ay,A6,Ai Aai,Ay,Ai Aai,Ay,Ai Aai,Ay]
   rw[show Db _ (os,())=_ from hout,Ac]
  |false=>
   obtain⟨rfl,rfl⟩:=hf1 rfl
   have hout:=Xf hm hn
   rw[Ao,Ai Aai,Ay,Ao]
   rw[show Db _ (os,())=_ from hout,Ac]
 |true=>
  rw[hask]at hr
  simp only[Bool.not_true,Ao]at hr ⊢
  obtain⟨r,ms,k,rs,hl1,hl2,ht1,hf1⟩:=key (Fv (S.2.2.1,S.2.2.2.1,())).2 hr2 hr
  rw[Ac,rs,Ac,Ac]
  dsimp only
  simp only[List.nil_append]
  rw[Ai Aai,Ay]
  cases k with
  |true=>
   obtain⟨rfl,rfl⟩:=ht1 rfl
   have hout:=Xf hm hn
   rw[A6,An0 _ (by first|omega|simp),Ac,Ai zq3,Ay,Ai Aai,Ay,A6,Ai Aai,Ay,Ai Aai,Ay,Ai Aai,Ay]
   rw[show Db _ (os,())=_ from hout,Ac]
  |false=>
   obtain⟨rfl,rfl⟩:=hf1 rfl
   have hout:=Xf hm hn
   rw[Ao,Ai Aai,Ay,Ao]
   rw[show Db _ (os,())=_ from hout,Ac]
def Bpm (S x:Bc) (os:List Az) (ns:List Aq):Prop:=os=[]/\ns=[]/\x=(S.1,S.2.1,S.2.2.1,S.2.2.2.1,S.2.2.2.2.1,S.2.2.2.2.2.1,x.2.2.2.2.2.2.1,())/\x.2.2.2.2.2.2.1.length<=S.2.2.2.2.2.2.1.length+1
theorem Bwa (S:Bc) (n:YI) (a:A8) (b:YBs) (hn:Bh S<=3000000) (hb:WL b) (hb2:b.1.length<=4000000) (hw: ∀x∈Bw S,wfB (Cj x).2.1):
  ∃x os ns,Abu S n a b=some (x,(os,()),(ns,()))/\Abw S n a b=some (x,(os,()),(ns,()))/\Bh x<=8388608/\ns.length<=200000000/\os.length<=200000000/\(Ej S=false\/(gI b.1).2.1=false->Bpm S x os ns):=by
 have eI:Jm b=some (gI b.1):=A9e b.1 hb.2
 have eS:Aae b=some (gI b.1):=Bpl b.1 hb.1 hb2
 obtain⟨p,hp1,hp⟩:=Blr b hb
 have hpe:p=gI b.1:=Option.some.inj (hp1.symm.trans eI)
 subst hpe
 have q0:Bpm S S [] []:=⟨rfl,rfl,rfl,by omega⟩
 rw[Bxe]
 unfold Abu Tz T4
 simp only[Af,Ah,Aa,Ak]
 rw[Bh2 S zq0,Ac,A8y S zq0,Ac,Cm,Ac,Ik,Ac,Bro S zq0,Ac,Auk S zq0,Ac,Cy,Ac,Il,Ac]
 cases hs:Ej S with
 |false=>exact⟨S,[],[],rfl,rfl,by omega,by simp,by simp,fun _=>q0⟩
 |true=>
 cases ht:inR n.1 0 1000000 with
 |false=>exact⟨S,[],[],rfl,rfl,by omega,by simp,by simp,fun _=>q0⟩
 |true=>
 cases ha:Cq a with
 |false=>exact⟨S,[],[],rfl,rfl,by omega,by simp,by simp,fun _=>q0⟩
 |true=>
 simp only[Bool.not_true,Ao]
 obtain⟨a1,a2,a3,a4,a5,a6,a7⟩:=Ep.1 hs
 have hc8:=(D3.1 a5).1
 rw[Bv2 _ _ _ zq0,Ac,show Wk (S.2.2.2.2.2.2.1,()) a ((b.1.length:Int),())=_ from Bvz S.2.2.2.2.2.2.1 a ((b.1.length:Int),()) zq0,Ac,eI,Ac,eS,Ac]
 dsimp only
 obtain⟨gk,gs⟩:=Bt1 (a:=a) (n:=(b.1.length:Int)) a5
 have gl:=Bsa S.2.2.2.2.2.2.1 a (b.1.length:Int)
 generalize Adg S.2.2.2.2.2.2.1 a (b.1.length:Int)=cc at gk gs gl
 generalize gI b.1=p at hp
 obtain⟨f,ok,⟨⟩⟩:=p
 dsimp only at hp ⊢
 have n2:Bh S=S.1.length+Br Ec S.1+S.2.1.length+S.2.2.1.length+(Bw S).length+Br A5 (Bw S)+(Kg S).length:=rfl
 have hS0:Ej (S.1,S.2.1,S.2.2.1,S.2.2.2.1,S.2.2.2.2.1,S.2.2.2.2.2.1,cc,())=true:=Ep.2 ⟨a1,a2,a3,a4,gk,a6,a7⟩
 have hN0:Bh (S.1,S.2.1,S.2.2.1,S.2.2.2.1,S.2.2.2.2.1,S.2.2.2.2.2.1,cc,())<=4000000:=by
  have e1:Bh (S.1,S.2.1,S.2.2.1,S.2.2.2.1,S.2.2.2.2.1,S.2.2.2.2.2.1,cc,())=S.1.length+Br Ec S.1+S.2.1.length+S.2.2.1.length+(Bw S).length+Br A5 (Bw S)+cc.length:=rfl
  have:(Kg S).length=S.2.2.2.2.2.2.1.length:=rfl
  omega
 have hTl:S.2.2.2.2.2.1.length<=4294967296:=by show(Bw S).length<=_;omega
 have run: ∀ {X:Bc} {os:List Az} {ns:List Aq} {fin init:Bool},Mid (S.1,S.2.1,S.2.2.1,S.2.2.2.1,S.2.2.2.2.1,S.2.2.2.2.2.1,cc,()) X os ns fin init->A0 Dx (ns,([]:List Az),os,(os.length:Int),(0:Int),([]:List YBs),([]:List YB),([]:List YB),(0:Int),(0:Int),([]:List Al),([]:List An),X.1,X.2.1,X.2.2.1,X.2.2.2.1,X.2.2.2.2.1,X.2.2.2.2.2.1,X.2.2.2.2.2.2.1,())=some (ns,Agh X os,([]:List YBs),([]:List YB),([]:List YB),(0:Int),(0:Int),([]:List Al),([]:List An),(Ak0 X os))/\Bh (Ak0 X os)<=8388608/\ns.length<=200000000/\(Agh X os).length<=200000000:=fun {X os ns fin init} h=>by
  obtain⟨⟨m1,m2,m2'⟩,⟨m3,m4⟩,m5,⟨m6,_,m7⟩,m8,m9,m10⟩:=h
  obtain⟨b1,b2,b3,b4,b5,b6,b7⟩:=Ep.1 m1
  have n3:Bh X=X.1.length+Br Ec X.1+X.2.1.length+X.2.2.1.length+(Bw X).length+Br A5 (Bw X)+(Kg X).length:=rfl
  have hT:X.2.2.2.2.2.1.length<=4294967296:=by show(Bw X).length<=_;omega
  obtain⟨s1,s2,s3,s4,s5⟩:=A5u (t:=(X.2.2.2.2.1,X.2.2.2.2.2.1,())) (l:=os) b5
  refine⟨Bud ns os X.2.2.2.2.2.2.1 _ _ _ _ _ _ _ X.1 X.2.1 X.2.2.1 X.2.2.2.1 X.2.2.2.2.1 X.2.2.2.2.2.1 b5 m3 m2 hT,?_,m4,Nat.le_trans s4 m3⟩
  have n4:Bh (Ak0 X os)=X.1.length+Br Ec X.1+X.2.1.length+X.2.2.1.length+(Bw X).length+Br A5 (Bw X)+(Gi (X.2.2.2.2.1,X.2.2.2.2.2.1,()) os X.2.2.2.2.2.2.1).2.length:=rfl
  have:(Kg X).length=X.2.2.2.2.2.2.1.length:=rfl
  omega
 obtain⟨z1,z2,_⟩:=run (Mid.none (fin:=false) (init:=false) hS0)
 have z1:A0 Dx (([]:List Aq),([]:List Az),([]:List Az),(([]:List Az).length:Int),(0:Int),([]:List YBs),([]:List YB),([]:List YB),(0:Int),(0:Int),([]:List Al),([]:List An),S.1,S.2.1,S.2.2.1,S.2.2.2.1,S.2.2.2.2.1,S.2.2.2.2.2.1,cc,())=_:=z1
 have hno:Db (S.1,S.2.1,S.2.2.1,S.2.2.2.1,S.2.2.2.2.1,S.2.2.2.2.2.1,cc,()) (([]:List Az),())=_:=Xf (Mid.none (fin:=false) (init:=false) hS0) hN0
 cases ok with
 |false=>
  simp only[Bool.not_false,A6]
  rw[z1,Ac]
  exact⟨_,_,_,rfl,rfl,z2,by simp,by simp[Agh,Gi],fun _=>⟨rfl,rfl,rfl,gl⟩⟩
 |true=>
 simp only[Bool.not_true,Ao]
 obtain⟨p1,p2,p3,p4⟩:=hp rfl
 dsimp only at p1 p2 p3 p4
 have noq: ∀ {x:Bc} {os:List Az} {ns:List Aq},(true=false\/true=false->Bpm S x os ns):=fun h=>by rcases h with h|h<;>cases h
 by_cases h1:f.1=1
 .have e1:(f.1==(1:Int))=true:=by simp[h1]
  rw[Dv e1,Dv e1]
  obtain⟨X,os,ns,hi,hm,hsp⟩:=Bv8 _ n a f S.2.2.2.2.2.2.1 hS0 hN0 ha ht p1 h1
  obtain⟨r1,r2,r3,r4⟩:=run hm
  rw[hi,Ac]
  dsimp only
  rw[r1,Ac]
  exact⟨_,_,_,rfl,hsp,r2,r3,r4,noq⟩
 have e1:(f.1==(1:Int))=false:=by simpa using h1
 rw[C4 e1,C4 e1]
 by_cases h3:f.1=3
 .have e3:(f.1==(3:Int))=true:=by simp[h3]
  rw[Dv e3,Dv e3]
  obtain⟨X,os,ns,hi,hm,hsp⟩:=Bxf _ n a f S.2.2.2.2.2.2.1 hS0 hN0
  obtain⟨r1,r2,r3,r4⟩:=run hm
  rw[hi,Ac]
  dsimp only
  rw[r1,Ac]
  exact⟨_,_,_,rfl,hsp,r2,r3,r4,noq⟩
 have e3:(f.1==(3:Int))=false:=by simpa using h3
 rw[C4 e3,C4 e3,Ws,Ac,Wt,Ac]
 dsimp only
 cases hse:inR f.1 4 8 with
 |true=>
  rw[A6,A6]
  obtain⟨X,os,ns,hi,hm,hsp⟩:=Bv9 _ n a f S.2.2.2.2.2.2.1 hS0 hN0 ha ht p1 hse p2 hw
  obtain⟨r1,r2,r3,r4⟩:=run hm
  rw[hi,Ac]
  dsimp only
  rw[r1,Ac]
  exact⟨_,_,_,rfl,hsp,r2,r3,r4,noq⟩
 |false=>
  rw[Ao,Ao,z1,Ac,hno,Ac]
  exact⟨_,_,_,rfl,rfl,z2,by simp,by simp[Agh,Gi],noq⟩
theorem Bsg (a:YBs) (hw: ∀r,Hy a=some r->wfB r.2.2.2.1):A28 a=some (true,()):=by
 unfold A28 Va
 simp only[Ah,Af,Aa]
 rw[show Bl9 a=some (decide ((a.1.length:Int)>(1048576:Int)),())from rfl,Ac]
 by_cases hb:(a.1.length:Int)>1048576
 .rw[Ai hb,A6]
 rw[Bt hb,Ao]
 obtain⟨⟨s,n,ad,b⟩,e,h1,hbl⟩:=A0i a zq0
 have hwb:wfB b.1:=hw _ e
 dsimp only at h1 hbl
 have hN:=h1.need
 obtain⟨x,os,ns,g1,g2,g3,g4,g5,g6⟩:=Bwa s n ad b zq0 ⟨hwb,by omega⟩ zq0 (fun x hx=>(h1.2.2.2.1.2 x hx).2.2)
 rw[e,Ac]
 dsimp only
 rw[g1,Ac,g2,Ac,show Jm b=some (gI b.1)from A9e b.1 zq0,Ac,A8y s zq0,Ac,Auk s zq0,Ac]
 dsimp only
 rw[Aky x zq0,Ac,Bbi ns zq0,Ac]
 have quiet:Ej s=false\/(gI b.1).2.1=false->(br ((os.length:Int)==(0:Int)) (br ((ns.length:Int)==(0:Int)) (ob (Ll (x.1,x.2.1,x.2.2.1,x.2.2.2.1,x.2.2.2.2.1,x.2.2.2.2.2.1,s.2.2.2.2.2.2.1,()) s) fun r11=>some r11) (some (false,()))) (some (false,())))=some (true,()):=fun h=>by
  obtain⟨rfl,rfl,q3,_⟩:=g6 h
  have:(x.1,x.2.1,x.2.2.1,x.2.2.2.1,x.2.2.2.2.1,x.2.2.2.2.2.1,s.2.2.2.2.2.2.1,())=s:=by rw[q3]
  rw[this,Aky s zq0]
  rfl
 cases hk:(gI b.1).2.1 with
 |false=>
  cases hs:Ej s<;>exact quiet (.inr hk)
 |true=>
  cases hs:Ej s with
  |true=>rfl
  |false=>exact quiet (.inl hs)
end
end Go.Proofs.YthccfdmiejmbaaaGreat

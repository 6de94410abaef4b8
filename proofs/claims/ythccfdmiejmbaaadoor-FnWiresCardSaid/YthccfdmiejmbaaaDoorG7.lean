/-
  That the program and the reference answer alike, in plain terms, and that the laws answer true.
-/
import Derived.Test.YthccfdmiejmbaaaDoorG6
namespace Go.Proofs.YthccfdmiejmbaaaDoor
open Go.RowKit
set_option linter.unusedVariables false
set_option linter.unusedSimpArgs false
set_option maxRecDepth 100000
set_option maxHeartbeats 8000000
noncomputable section
def nI (b:List YB) (i n:Nat):Int:=(Ic ((b.drop i).take n) 0 n).1.1
def rI (b:List YB) (i n:Nat):List YB:=(b.drop i).take n
def f0:A5:=((0:Int),(0:Int),([]:List YB),([]:List YB),(0:Int),([]:List YB),([]:List YB),(0:Int),(0:Int),([]:List YB),([]:List YB),())
def pI (b:List YB):A5:=
 bif nI b 0 1==1 then(nI b 0 1,nI b 1 1,rI b 2 12,[],0,[],[],0,0,[],[],())
 else bif nI b 0 1==2 then(nI b 0 1,0,rI b 1 12,rI b 13 12,nI b 25 4,rI b 29 16,[],0,0,[],[],())
 else bif nI b 0 1==3 then(nI b 0 1,nI b 1 1,rI b 2 12,rI b 14 12,nI b 26 4,rI b 30 16,rI b 46 16,0,0,[],[],())
 else bif inR (nI b 0 1) 4 8 then(nI b 0 1,0,[],rI b 1 12,0,[],[],nI b 13 4,nI b 17 6,rI b 39 41,rI b 23 16,())
 else(nI b 0 1,0,[],[],0,[],[],0,0,[],[],())
def gI (b:List YB):A5×(Bool×Unit):=bif Bh (pI b) && Cg (Bs (pI b)) b then(pI b,(true,()))else(f0,(false,()))
theorem Uc (b:YBs) (F:A5):(ob (Bz F) fun r=>br (!r.1) (some (f0,(false,()))) (ob (Bw F) fun r5=>ob (A7 r5 b) fun r6=>br (!r6.1) (some (f0,(false,()))) (some (F,(true,())))))=some (bif Bh F && Cg (Bs F) b.1 then(F,(true,()))else(f0,(false,()))):=by
 rw[Wm,As]
 cases hf:Bh F with
 |false=>rfl
 |true=>
  have hn:=Acn hf
  rw[Aci F zq1,As,R1,As]
  cases Cg (Bs F) b.1<;>rfl
theorem Acp (b:List YB) (h:b.length<=4294967296):Kx (b,())=some (gI b):=by
 unfold Kx Kq
 simp only[Am,Ar,Ad,Aw]
 have tn: ∀(i n:Nat),Bl (b.drop i,()) ((n:Int),())=some ((nI b i n,()),(b.drop (i+n),())):=fun i n=>by
  rw[Afk _ _ zq1 zq0]
  simp only[Int.toNat_natCast,List.drop_drop]
  unfold nI Ic
  split<;>rfl
 have tk: ∀(i n:Nat),Ax (b.drop i,()) ((n:Int),())=some ((rI b i n,()),(b.drop (i+n),())):=fun i n=>by
  rw[Abm _ _ zq1 zq0]
  simp only[Int.toNat_natCast,List.drop_drop]
  rfl
 rw[show Bl (b,()) ((1:Int),())=_ from tn 0 1]
 simp only[As]
 unfold gI pI
 cases k1:nI b 0 1==1 with
 |true=>
  simp only[Bo,cond_true]
  rw[show Bl (b.drop (0+1),()) ((1:Int),())=_ from tn 1 1,As,show Ax (b.drop (1+1),()) ((12:Int),())=_ from tk 2 12,As]
  exact Uc (b,()) _
 |false=>
 simp only[A9,cond_false]
 cases k2:nI b 0 1==2 with
 |true=>
  have k3:(nI b 0 1==3)=false:=by simp only[beq_iff_eq]at k2;rw[k2];rfl
  simp only[Bo,A9,cond_true,k3]
  rw[show Ax (b.drop (0+1),()) ((12:Int),())=_ from tk 1 12,As,show Ax (b.drop (1+12),()) ((12:Int),())=_ from tk 13 12,As,show Bl (b.drop (13+12),()) ((4:Int),())=_ from tn 25 4,As,show Ax (b.drop (25+4),()) ((16:Int),())=_ from tk 29 16,As]
  exact Uc (b,()) _
 |false=>
 simp only[A9,cond_false]
 cases k3:nI b 0 1==3 with
 |true=>
  simp only[Bo,cond_true]
  rw[show Bl (b.drop (0+1),()) ((1:Int),())=_ from tn 1 1,As,show Ax (b.drop (1+1),()) ((12:Int),())=_ from tk 2 12,As,show Ax (b.drop (2+12),()) ((12:Int),())=_ from tk 14 12,As,show Bl (b.drop (14+12),()) ((4:Int),())=_ from tn 26 4,As,show Ax (b.drop (26+4),()) ((16:Int),())=_ from tk 30 16,As,show Ax (b.drop (30+16),()) ((16:Int),())=_ from tk 46 16,As]
  exact Uc (b,()) _
 |false=>
 simp only[A9,cond_false]
 rw[Zd,As]
 dsimp only
 cases k4:inR (nI b 0 1) 4 8 with
 |true=>
  simp only[Bo,cond_true]
  rw[show Ax (b.drop (0+1),()) ((12:Int),())=_ from tk 1 12,As,show Bl (b.drop (1+12),()) ((4:Int),())=_ from tn 13 4,As,show Bl (b.drop (13+4),()) ((6:Int),())=_ from tn 17 6,As,show Ax (b.drop (17+6),()) ((16:Int),())=_ from tk 23 16,As,show Ax (b.drop (23+16),()) ((41:Int),())=_ from tk 39 41,As]
  exact Uc (b,()) _
 |false=>
  simp only[A9,cond_false]
  exact Uc (b,()) _
theorem Wr {a b:List YB} (h:Cg a b=true):a.length=b.length:=by
 have h1:Cr a=Cr b:=by simpa [Cg] using h
 unfold Cr at h1
 have h2:=congrArg (fun x=>x.data.size) h1
 simpa using h2
theorem M0 {b:List YB} {i n:Nat} (h1:1<=n/\n<=6) (h2:i+n<=b.length):(Ic b i n).1.1=Fm ((b.drop i).take n):=by
 unfold Ic
 rw[if_pos zq1]
 simp
theorem Ud {b:List YB} {i n:Nat} (h1:1<=n/\n<=6) (h2:i+n<=b.length):nI b i n=Fm ((b.drop i).take n):=by
 unfold nI
 rw[show((0:Int))=((0:Nat):Int)from rfl,M0 h1 zq0]
 simp[List.take_take]
theorem Afl {b:List YB} (hw:wfB b) {i:Nat} (h:i<b.length):nI b i 1=b[i].1/\IntKind.i64.wrap b[i].1=b[i].1:=by
 have hr:=hw i b[i] (List.getElem?_eq_getElem h)
 refine⟨?_,w64 zq1⟩
 rw[Ud zq1 zq1]
 have:(b.drop i).take 1=[(b[i].1,())]:=by
  rw[List.drop_eq_getElem_cons h];rfl
 rw[this]
 exact Acm hr
theorem Aim {i n:Nat}:nI [] i n=0:=by
 unfold nI Ic
 split
 .rename_i h;simp at h;omega
 .rfl
theorem Lk {b:List YB} {i j n:Nat} (h:j=i+n):(b.take j).drop i=rI b i n:=by
 unfold rI;rw[h,List.drop_take];congr 1;omega
theorem Abn {b:List YB} {i n:Nat} (h:b.length<=i+n):(b.take b.length).drop i=rI b i n:=by
 unfold rI
 rw[List.take_length,List.take_of_length_le zq0]
theorem R4 {f:A5} (h:Bh f=true):f.1=1\/f.1=2\/f.1=3\/inR f.1 4 8=true:=by
 unfold Bh at h
 cases hs:inR f.1 4 8 with
 |true=>exact .inr (.inr (.inr rfl))
 |false=>
  rw[hs]at h
  simp only[cond_false,Bool.and_eq_true,beq_iff_eq]at h
  obtain⟨h1,h2,h3,h4,h5,h⟩:=h
  cases k1:f.1==1 with
  |true=>exact .inl (by simpa using k1)
  |false=>
   rw[k1]at h
   cases k2:f.1==2 with
   |true=>exact .inr (.inl (by simpa using k2))
   |false=>
    rw[k2]at h
    simp only[cond_false,Bool.and_eq_true,beq_iff_eq]at h
    exact .inr (.inr (.inl h.1))
theorem Agx {f:A5} (h:Bh f=true):(Bs f).length=(if f.1=1 then 34 else if f.1=2 then 45 else if f.1=3 then 62 else 39+f.2.2.2.2.2.2.2.2.2.1.length):=by
 unfold Bs
 rw[h]
 simp only[Bool.not_true,cond_false]
 by_cases k1:f.1=1
 .obtain⟨_,c⟩:=Aco h k1
  rw[if_pos k1,show(f.1==1)=true by simp[k1]]
  simp[c]
 rw[if_neg k1,show(f.1==1)=false by simpa using k1]
 by_cases k2:f.1=2
 .obtain⟨c1,c2,_,c4,_⟩:=Ze h k2
  rw[if_pos k2,show(f.1==2)=true by simp[k2]]
  simp[c1,c2,c4,Ea]
 rw[if_neg k2,show(f.1==2)=false by simpa using k2]
 by_cases k3:f.1=3
 .obtain⟨_,c1,c2,_,c4,c5⟩:=Ad6 h k3
  rw[if_pos k3,show(f.1==3)=true by simp[k3]]
  simp[c1,c2,c4,c5,Ea]
 rw[if_neg k3,show(f.1==3)=false by simpa using k3]
 have k4:inR f.1 4 8=true:=by
  rcases R4 h with q|q|q|q
  .exact(k1 q).elim
  .exact(k2 q).elim
  .exact(k3 q).elim
  .exact q
 unfold Bh at h
 rw[k4]at h
 simp only[cond_true,Bool.and_eq_true,beq_iff_eq]at h
 obtain⟨_,_,c3,_,_,_,_,_,_,c10⟩:=h
 simp[Ea]
 omega
theorem Acq {f:A5} {b:List YB} (hb:0<b.length) (h:Cg (Bs f) b=true):Bh f=true:=by
 cases hf:Bh f with
 |true=>rfl
 |false=>
  have:=Wr h
  unfold Bs at this
  rw[hf]at this
  simp at this
  omega
theorem Q5 {b:List YB} (hb:0<b.length):(bif Cg (Bs (pI b)) b then(pI b,(true,()))else(f0,(false,())))=gI b:=by
 unfold gI
 cases hs:Cg (Bs (pI b)) b with
 |false=>rw[Bool.and_false]
 |true=>rw[Acq hb hs];rfl
theorem Of {b:List YB} (h:Bh (pI b)=true->Cg (Bs (pI b)) b=true->False):gI b=(f0,(false,())):=by
 unfold gI
 cases h1:Bh (pI b)with
 |false=>rfl
 |true=>
  cases h2:Cg (Bs (pI b)) b with
  |false=>rfl
  |true=>exact(h h1 h2).elim
theorem Q6 (b:List YB) (F:A5) (hn:Bq F<=536870912):(ob (C8 F) fun r3=>br (!(decide ((Cr r3.1)=(Cr b)))) (some (f0,(false,()))) (some (F,(true,()))))=some (bif Cg (Bs F) b then(F,(true,()))else(f0,(false,()))):=by
 rw[Ua F hn,As]
 show br (!(Cg (Bs F) b)) _ _=_
 cases Cg (Bs F) b<;>rfl
theorem Acr (b:List YB) (hw:wfB b) (hl:b.length<=4000000):K0 (b,())=some (gI b):=by
 unfold K0 Ku
 simp only[Am,Ar,Ad,Aw,List.nil_append,List.length_nil,Nat.zero_add]
 by_cases h0:b.length=0
 .have hb:b=[]:=List.eq_nil_of_length_eq_zero h0
  subst hb
  rw[Of (fun h _=>?_)]
  .rfl
  .have e:pI []=f0:=by
    unfold pI
    rw[Aim];rfl
   rw[e]at h
   exact absurd h zq3
 have hb0:0<b.length:=by omega
 obtain⟨n0,m0⟩:=Afl hw hb0
 have hx0:=List.getElem?_eq_getElem hb0
 rw[Xs (by simp only[beq_eq_false_iff_ne,ne_eq];omega),show idx b (0:Int)=_ from D2 hx0,As,m0,<-n0]
 have slen: ∀i j,((b.take j).drop i).length<=4294967296:=fun i j=>by simp;omega
 have pk: ∀ {f:A5},pI b=f->Bh f=true->Cg (Bs f) b=true->b.length=(if f.1=1 then 34 else if f.1=2 then 45 else if f.1=3 then 62 else 39+f.2.2.2.2.2.2.2.2.2.1.length):=fun _ h1 h2=>(Wr h2).symm.trans (Agx h1)
 cases k1:nI b 0 1==1 with
 |true=>
  have e:pI b=(nI b 0 1,nI b 1 1,rI b 2 12,[],0,[],[],0,0,[],[],()):=by unfold pI;rw[k1];rfl
  have k1':nI b 0 1=1:=by simpa using k1
  rw[Bo]
  by_cases hlen:b.length=34
  .have hb1:1<b.length:=by omega
   obtain⟨n1,m1⟩:=Afl hw hb1
   rw[Xs (by simp[hlen]),show idx b (1:Int)=_ from D2 (List.getElem?_eq_getElem hb1),As,Al zq1,Au,Al (slen _ _),Au,m1,<-n1,show(b.take ((14:Int)).toNat).drop ((2:Int)).toNat=rI b 2 12 from Lk rfl]
   refine(Q6 b _ ?_).trans ?_
   .simp only[Bq,rI,List.length_nil,List.length_take,List.length_drop];omega
   .rw[<-e,Q5 hb0]
  .rw[Acg zq0,Of (fun h1 h2=>?_)]
   .rfl
   .have:=pk rfl h1 h2
    rw[e]at this
    rw[if_pos k1']at this
    omega
 |false=>
 rw[A9]
 cases k2:nI b 0 1==2 with
 |true=>
  have e:pI b=(nI b 0 1,0,rI b 1 12,rI b 13 12,nI b 25 4,rI b 29 16,[],0,0,[],[],()):=by unfold pI;rw[k1,k2];rfl
  have k2':nI b 0 1=2:=by simpa using k2
  rw[Bo]
  by_cases hlen:b.length=45
  .have hg:nI b 25 4=(Ic b 25 4).1.1:=(Ud zq1 zq1).trans (M0 (b:=b) (i:=25) (n:=4) zq1 zq1).symm
   have hl32:b.length<=4294967296:=by omega
   rw[Xs (by simp[hlen]),Al zq1,Au,Al (slen _ _),Au,Al zq1,Au,Al (slen _ _),Au,Ub b 25 4 hl32,As,Al zq1,Au,Al zq1,Au,Al (slen _ _),Au,<-hg,show(b.take ((13:Int)).toNat).drop ((1:Int)).toNat=rI b 1 12 from Lk rfl,show(b.take ((25:Int)).toNat).drop ((13:Int)).toNat=rI b 13 12 from Lk rfl,show(b.take ((b.length:Int)).toNat).drop ((29:Int)).toNat=rI b 29 16 from Abn zq1]
   refine(Q6 b _ ?_).trans ?_
   .simp only[Bq,rI,List.length_nil,List.length_take,List.length_drop];omega
   .rw[<-e,Q5 hb0]
  .rw[Acg zq0,Of (fun h1 h2=>?_)]
   .rfl
   .have:=pk rfl h1 h2
    rw[e]at this
    rw[if_neg (by dsimp only;omega),if_pos k2']at this
    omega
 |false=>
 rw[A9]
 cases k3:nI b 0 1==3 with
 |true=>
  have e:pI b=(nI b 0 1,nI b 1 1,rI b 2 12,rI b 14 12,nI b 26 4,rI b 30 16,rI b 46 16,0,0,[],[],()):=by unfold pI;rw[k1,k2,k3];rfl
  have k3':nI b 0 1=3:=by simpa using k3
  rw[Bo]
  by_cases hlen:b.length=62
  .have hb1:1<b.length:=by omega
   obtain⟨n1,m1⟩:=Afl hw hb1
   have hg:nI b 26 4=(Ic b 26 4).1.1:=(Ud zq1 zq1).trans (M0 (b:=b) (i:=26) (n:=4) zq1 zq1).symm
   have hl32:b.length<=4294967296:=by omega
   rw[Xs (by simp[hlen]),show idx b (1:Int)=_ from D2 (List.getElem?_eq_getElem hb1),As,Al zq1,Au,Al (slen _ _),Au,Al zq1,Au,Al (slen _ _),Au,Ub b 26 4 hl32,As,Al zq1,Au,Al (slen _ _),Au,Au,Al zq1,Au,Al (slen _ _),Au,<-hg,m1,<-n1,show(b.take ((14:Int)).toNat).drop ((2:Int)).toNat=rI b 2 12 from Lk rfl,show(b.take ((26:Int)).toNat).drop ((14:Int)).toNat=rI b 14 12 from Lk rfl,show(b.take ((46:Int)).toNat).drop ((30:Int)).toNat=rI b 30 16 from Lk rfl,show(b.take ((b.length:Int)).toNat).drop ((46:Int)).toNat=rI b 46 16 from Abn zq1]
   refine(Q6 b _ ?_).trans ?_
   .simp only[Bq,rI,List.length_nil,List.length_take,List.length_drop];omega
   .rw[<-e,Q5 hb0]
  .rw[Acg zq0,Of (fun h1 h2=>?_)]
   .rfl
   .have:=pk rfl h1 h2
    rw[e]at this
    rw[if_neg (by dsimp only;omega),if_neg (by dsimp only;omega),if_pos k3']at this
    omega
 |false=>
 rw[A9]
 have k1':nI b 0 1≠1:=by simpa using k1
 have k2':nI b 0 1≠2:=by simpa using k2
 have k3':nI b 0 1≠3:=by simpa using k3
 have eno:inR (nI b 0 1) 4 8=false->pI b=(nI b 0 1,0,[],[],0,[],[],0,0,[],[],()):=fun k4=>by unfold pI;rw[k1,k2,k3,k4];rfl
 have eyes:inR (nI b 0 1) 4 8=true->pI b=(nI b 0 1,0,[],rI b 1 12,0,[],[],nI b 13 4,nI b 17 6,rI b 39 41,rI b 23 16,()):=fun k4=>by unfold pI;rw[k1,k2,k3,k4];rfl
 have bad: ∀ {f:A5},f.1=nI b 0 1->inR (nI b 0 1) 4 8=false->Bh f=true->False:=fun hf k4 h=>by
  rcases R4 h with q|q|q|q
  .exact k1' (hf.symm.trans q)
  .exact k2' (hf.symm.trans q)
  .exact k3' (hf.symm.trans q)
  .rw[hf,k4]at q;cases q
 by_cases hlen:b.length<39
 .rw[Al zq1,Bo,Of (fun h1 h2=>?_)]
  .rfl
  .have:=pk rfl h1 h2
   cases k4:inR (nI b 0 1) 4 8 with
   |false=>exact bad (by rw[eno k4]) k4 h1
   |true=>
    rw[eyes k4]at this
    rw[if_neg k1',if_neg k2',if_neg k3']at this
    omega
 .have hg1:nI b 13 4=(Ic b 13 4).1.1:=(Ud zq1 zq1).trans (M0 (b:=b) (i:=13) (n:=4) zq1 zq1).symm
  have hg2:nI b 17 6=(Ic b 17 6).1.1:=(Ud zq1 zq1).trans (M0 (b:=b) (i:=17) (n:=6) zq1 zq1).symm
  have hl32:b.length<=4294967296:=by omega
  rw[Df zq1,A9,Al zq1,Au,Al (slen _ _),Au,Ub b 13 4 hl32,As,Ub b 17 6 hl32,As,Al zq1,Au,Al (slen _ _),Au,Au,Al zq1,Au,Al (slen _ _),Au,<-hg1,<-hg2,show(b.take ((13:Int)).toNat).drop ((1:Int)).toNat=rI b 1 12 from Lk rfl,show(b.take ((39:Int)).toNat).drop ((23:Int)).toNat=rI b 23 16 from Lk rfl,show(b.take ((b.length:Int)).toNat).drop ((39:Int)).toNat=b.drop 39 by simp]
  refine(Q6 b _ ?_).trans ?_
  .simp only[Bq,rI,List.length_nil,List.length_take,List.length_drop];omega
  .cases k4:inR (nI b 0 1) 4 8 with
   |false=>
    rw[Of (fun h1 h2=>bad (by rw[eno k4]) k4 h1)]
    cases hs:Cg (Bs (nI b 0 1,(0:Int),([]:List YB),rI b 1 12,(0:Int),([]:List YB),([]:List YB),nI b 13 4,nI b 17 6,b.drop 39,rI b 23 16,())) b with
    |false=>rfl
    |true=>exact(bad rfl k4 (Acq hb0 hs)).elim
   |true=>
    by_cases h80:b.length<=80
    .have:b.drop 39=rI b 39 41:=by unfold rI;rw[List.take_of_length_le zq0]
     rw[this,<-eyes k4,Q5 hb0]
    .have big: ∀ {f:A5},f.1=nI b 0 1->40<f.2.2.2.2.2.2.2.2.2.1.length->Bh f=true->False:=fun hf hlen h=>by
      obtain⟨_,_,_,c,_⟩:=Acj h (by rw[hf];exact k4)
      have:=Wq c
      omega
     rw[Of (fun h1 h2=>big (by rw[eyes k4]) (by rw[eyes k4];simp[rI];omega) h1)]
     cases hs:Cg (Bs (nI b 0 1,(0:Int),([]:List YB),rI b 1 12,(0:Int),([]:List YB),([]:List YB),nI b 13 4,nI b 17 6,b.drop 39,rI b 23 16,())) b with
     |false=>rfl
     |true=>exact(big rfl zq0 (Acq hb0 hs)).elim
end
end Go.Proofs.YthccfdmiejmbaaaDoor

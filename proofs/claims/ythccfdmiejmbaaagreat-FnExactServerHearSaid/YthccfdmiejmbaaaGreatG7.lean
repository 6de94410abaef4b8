/-
  That the program and the reference answer alike, in plain terms, and that the laws answer true.
-/
import Derived.Test.YthccfdmiejmbaaaGreatG6
namespace Go.Proofs.YthccfdmiejmbaaaGreat
open Go.RowKit
set_option linter.unusedVariables false
set_option linter.unusedSimpArgs false
set_option maxRecDepth 100000
set_option maxHeartbeats 8000000
noncomputable section
def nI (b:List YB) (i n:Nat):Int:=(Xu ((b.drop i).take n) 0 n).1.1
def rI (b:List YB) (i n:Nat):List YB:=(b.drop i).take n
def f0:As:=((0:Int),(0:Int),([]:List YB),([]:List YB),(0:Int),([]:List YB),([]:List YB),(0:Int),(0:Int),([]:List YB),([]:List YB),())
def pI (b:List YB):As:=
 bif nI b 0 1==1 then(nI b 0 1,nI b 1 1,rI b 2 12,[],0,[],[],0,0,[],[],())
 else bif nI b 0 1==2 then(nI b 0 1,0,rI b 1 12,rI b 13 12,nI b 25 4,rI b 29 16,[],0,0,[],[],())
 else bif nI b 0 1==3 then(nI b 0 1,nI b 1 1,rI b 2 12,rI b 14 12,nI b 26 4,rI b 30 16,rI b 46 16,0,0,[],[],())
 else bif inR (nI b 0 1) 4 8 then(nI b 0 1,0,[],rI b 1 12,0,[],[],nI b 13 4,nI b 17 6,rI b 39 41,rI b 23 16,())
 else(nI b 0 1,0,[],[],0,[],[],0,0,[],[],())
def gI (b:List YB):As×(Bool×Unit):=bif Bm (pI b) && Cm (D8 (pI b)) b then(pI b,(true,()))else(f0,(false,()))
theorem Bb1 (b:YBs) (F:As):(ob (Dd F) fun r=>br (!r.1) (some (f0,(false,()))) (ob (Ea F) fun r5=>ob (Ca r5 b) fun r6=>br (!r6.1) (some (f0,(false,()))) (some (F,(true,())))))=some (bif Bm F && Cm (D8 F) b.1 then(F,(true,()))else(f0,(false,()))):=by
 rw[Jj,Ab]
 cases hf:Bm F with
 |false=>rfl
 |true=>
  have hn:=Kq hf
  rw[Awm F zq0,Ab,Ge,Ab]
  cases Cm (D8 F) b.1<;>rfl
theorem Bs8 (b:List YB) (h:b.length<=4294967296):Pe (b,())=some (gI b):=by
 unfold Pe Aam
 simp only[Ad,Ae,Aa,Ag]
 have tn: ∀(i n:Nat),Dt (b.drop i,()) ((n:Int),())=some ((nI b i n,()),(b.drop (i+n),())):=fun i n=>by
  rw[Bma _ _ zq0 zq1]
  simp only[Int.toNat_natCast,List.drop_drop]
  unfold nI Xu
  split<;>rfl
 have tk: ∀(i n:Nat),Cg (b.drop i,()) ((n:Int),())=some ((rI b i n,()),(b.drop (i+n),())):=fun i n=>by
  rw[Bee _ _ zq0 zq1]
  simp only[Int.toNat_natCast,List.drop_drop]
  rfl
 rw[show Dt (b,()) ((1:Int),())=_ from tn 0 1]
 simp only[Ab]
 unfold gI pI
 cases k1:nI b 0 1==1 with
 |true=>
  simp only[Ay,cond_true]
  rw[show Dt (b.drop (0+1),()) ((1:Int),())=_ from tn 1 1,Ab,show Cg (b.drop (1+1),()) ((12:Int),())=_ from tk 2 12,Ab]
  exact Bb1 (b,()) _
 |false=>
 simp only[Aj,cond_false]
 cases k2:nI b 0 1==2 with
 |true=>
  have k3:(nI b 0 1==3)=false:=by simp only[beq_iff_eq]at k2;rw[k2];rfl
  simp only[Ay,Aj,cond_true,k3]
  rw[show Cg (b.drop (0+1),()) ((12:Int),())=_ from tk 1 12,Ab,show Cg (b.drop (1+12),()) ((12:Int),())=_ from tk 13 12,Ab,show Dt (b.drop (13+12),()) ((4:Int),())=_ from tn 25 4,Ab,show Cg (b.drop (25+4),()) ((16:Int),())=_ from tk 29 16,Ab]
  exact Bb1 (b,()) _
 |false=>
 simp only[Aj,cond_false]
 cases k3:nI b 0 1==3 with
 |true=>
  simp only[Ay,cond_true]
  rw[show Dt (b.drop (0+1),()) ((1:Int),())=_ from tn 1 1,Ab,show Cg (b.drop (1+1),()) ((12:Int),())=_ from tk 2 12,Ab,show Cg (b.drop (2+12),()) ((12:Int),())=_ from tk 14 12,Ab,show Dt (b.drop (14+12),()) ((4:Int),())=_ from tn 26 4,Ab,show Cg (b.drop (26+4),()) ((16:Int),())=_ from tk 30 16,Ab,show Cg (b.drop (30+16),()) ((16:Int),())=_ from tk 46 16,Ab]
  exact Bb1 (b,()) _
 |false=>
 simp only[Aj,cond_false]
 rw[Xs,Ab]
 dsimp only
 cases k4:inR (nI b 0 1) 4 8 with
 |true=>
  simp only[Ay,cond_true]
  rw[show Cg (b.drop (0+1),()) ((12:Int),())=_ from tk 1 12,Ab,show Dt (b.drop (1+12),()) ((4:Int),())=_ from tn 13 4,Ab,show Dt (b.drop (13+4),()) ((6:Int),())=_ from tn 17 6,Ab,show Cg (b.drop (17+6),()) ((16:Int),())=_ from tk 23 16,Ab,show Cg (b.drop (23+16),()) ((41:Int),())=_ from tk 39 41,Ab]
  exact Bb1 (b,()) _
 |false=>
  simp only[Aj,cond_false]
  exact Bb1 (b,()) _
theorem Bg9 {a b:List YB} (h:Cm a b=true):a.length=b.length:=by
 have h1:H8 a=H8 b:=by simpa [Cm] using h
 unfold H8 at h1
 have h2:=congrArg (fun x=>x.data.size) h1
 simpa using h2
theorem Ar0 {b:List YB} {i n:Nat} (h1:1<=n/\n<=6) (h2:i+n<=b.length):(Xu b i n).1.1=Rn ((b.drop i).take n):=by
 unfold Xu
 rw[if_pos zq0]
 simp
theorem Bb2 {b:List YB} {i n:Nat} (h1:1<=n/\n<=6) (h2:i+n<=b.length):nI b i n=Rn ((b.drop i).take n):=by
 unfold nI
 rw[show((0:Int))=((0:Nat):Int)from rfl,Ar0 h1 zq1]
 simp[List.take_take]
theorem Byg {b:List YB} (hw:wfB b) {i:Nat} (h:i<b.length):nI b i 1=b[i].1/\IntKind.i64.wrap b[i].1=b[i].1:=by
 have hr:=hw i b[i] (List.getElem?_eq_getElem h)
 refine⟨?_,w64 zq0⟩
 rw[Bb2 zq0 zq0]
 have:(b.drop i).take 1=[(b[i].1,())]:=by
  rw[List.drop_eq_getElem_cons h];rfl
 rw[this]
 exact Bs1 hr
theorem B20 {i n:Nat}:nI [] i n=0:=by
 unfold nI Xu
 split
 .rename_i h;simp at h;omega
 .rfl
theorem Amg {b:List YB} {i j n:Nat} (h:j=i+n):(b.take j).drop i=rI b i n:=by
 unfold rI;rw[h,List.drop_take];congr 1;omega
theorem Bqd {b:List YB} {i n:Nat} (h:b.length<=i+n):(b.take b.length).drop i=rI b i n:=by
 unfold rI
 rw[List.take_length,List.take_of_length_le zq1]
theorem A50 {f:As} (h:Bm f=true):f.1=1\/f.1=2\/f.1=3\/inR f.1 4 8=true:=by
 unfold Bm at h
 cases hs:inR f.1 4 8 with
 |true=>exact .inr (.inr (.inr rfl))
 |false=>
  rw[hs]at h
  simp only[cond_false,Bool.and_eq_true,beq_iff_eq]at h
  obtain⟨h1,h2,h3,h4,h5,h⟩:=h
  cases k1:f.1==1 with
  |true=>exact .inl (by simpa using k1)
  |false=>
   rw[k1]at h
   cases k2:f.1==2 with
   |true=>exact .inr (.inl (by simpa using k2))
   |false=>
    rw[k2]at h
    simp only[cond_false,Bool.and_eq_true,beq_iff_eq]at h
    exact .inr (.inr (.inl h.1))
theorem B0i {f:As} (h:Bm f=true):(D8 f).length=(if f.1=1 then 34 else if f.1=2 then 45 else if f.1=3 then 62 else 39+f.2.2.2.2.2.2.2.2.2.1.length):=by
 unfold D8
 rw[h]
 simp only[Bool.not_true,cond_false]
 by_cases k1:f.1=1
 .obtain⟨_,c⟩:=Awz h k1
  rw[if_pos k1,show(f.1==1)=true by simp[k1]]
  simp[c]
 rw[if_neg k1,show(f.1==1)=false by simpa using k1]
 by_cases k2:f.1=2
 .obtain⟨c1,c2,_,c4,_⟩:=Bl5 h k2
  rw[if_pos k2,show(f.1==2)=true by simp[k2]]
  simp[c1,c2,c4,Fe]
 rw[if_neg k2,show(f.1==2)=false by simpa using k2]
 by_cases k3:f.1=3
 .obtain⟨_,c1,c2,_,c4,c5⟩:=Qc h k3
  rw[if_pos k3,show(f.1==3)=true by simp[k3]]
  simp[c1,c2,c4,c5,Fe]
 rw[if_neg k3,show(f.1==3)=false by simpa using k3]
 have k4:inR f.1 4 8=true:=by
  rcases A50 h with q|q|q|q
  .exact(k1 q).elim
  .exact(k2 q).elim
  .exact(k3 q).elim
  .exact q
 unfold Bm at h
 rw[k4]at h
 simp only[cond_true,Bool.and_eq_true,beq_iff_eq]at h
 obtain⟨_,_,c3,_,_,_,_,_,_,c10⟩:=h
 simp[Fe]
 omega
theorem Bs9 {f:As} {b:List YB} (hb:0<b.length) (h:Cm (D8 f) b=true):Bm f=true:=by
 cases hf:Bm f with
 |true=>rfl
 |false=>
  have:=Bg9 h
  unfold D8 at this
  rw[hf]at this
  simp at this
  omega
theorem A3t {b:List YB} (hb:0<b.length):(bif Cm (D8 (pI b)) b then(pI b,(true,()))else(f0,(false,())))=gI b:=by
 unfold gI
 cases hs:Cm (D8 (pI b)) b with
 |false=>rw[Bool.and_false]
 |true=>rw[Bs9 hb hs];rfl
theorem Aw2 {b:List YB} (h:Bm (pI b)=true->Cm (D8 (pI b)) b=true->False):gI b=(f0,(false,())):=by
 unfold gI
 cases h1:Bm (pI b)with
 |false=>rfl
 |true=>
  cases h2:Cm (D8 (pI b)) b with
  |false=>rfl
  |true=>exact(h h1 h2).elim
theorem A3u (b:List YB) (F:As) (hn:A5 F<=536870912):(ob (Jf F) fun r3=>br (!(decide ((H8 r3.1)=(H8 b)))) (some (f0,(false,()))) (some (F,(true,()))))=some (bif Cm (D8 F) b then(F,(true,()))else(f0,(false,()))):=by
 rw[Bbi F hn,Ab]
 show br (!(Cm (D8 F) b)) _ _=_
 cases Cm (D8 F) b<;>rfl
theorem Bta (b:List YB) (hw:wfB b) (hl:b.length<=4000000):Aa2 (b,())=some (gI b):=by
 unfold Aa2 Aih
 simp only[Ad,Ae,Aa,Ag,List.nil_append,List.length_nil,Nat.zero_add]
 by_cases h0:b.length=0
 .have hb:b=[]:=List.eq_nil_of_length_eq_zero h0
  subst hb
  rw[Aw2 (fun h _=>?_)]
  .rfl
  .have e:pI []=f0:=by
    unfold pI
    rw[B20];rfl
   rw[e]at h
   exact absurd h zq7
 have hb0:0<b.length:=by omega
 obtain⟨n0,m0⟩:=Byg hw hb0
 have hx0:=List.getElem?_eq_getElem hb0
 rw[Ce (by simp only[beq_eq_false_iff_ne,ne_eq];omega),show idx b (0:Int)=_ from Bc hx0,Ab,m0,<-n0]
 have slen: ∀i j,((b.take j).drop i).length<=4294967296:=fun i j=>by simp;omega
 have pk: ∀ {f:As},pI b=f->Bm f=true->Cm (D8 f) b=true->b.length=(if f.1=1 then 34 else if f.1=2 then 45 else if f.1=3 then 62 else 39+f.2.2.2.2.2.2.2.2.2.1.length):=fun _ h1 h2=>(Bg9 h2).symm.trans (B0i h1)
 cases k1:nI b 0 1==1 with
 |true=>
  have e:pI b=(nI b 0 1,nI b 1 1,rI b 2 12,[],0,[],[],0,0,[],[],()):=by unfold pI;rw[k1];rfl
  have k1':nI b 0 1=1:=by simpa using k1
  rw[Ay]
  by_cases hlen:b.length=34
  .have hb1:1<b.length:=by omega
   obtain⟨n1,m1⟩:=Byg hw hb1
   rw[Ce (by simp[hlen]),show idx b (1:Int)=_ from Bc (List.getElem?_eq_getElem hb1),Ab,Ai zq0,Ar,Ai (slen _ _),Ar,m1,<-n1,show(b.take ((14:Int)).toNat).drop ((2:Int)).toNat=rI b 2 12 from Amg rfl]
   refine(A3u b _ ?_).trans ?_
   .simp only[A5,rI,List.length_nil,List.length_take,List.length_drop];omega
   .rw[<-e,A3t hb0]
  .rw[Dj zq1,Aw2 (fun h1 h2=>?_)]
   .rfl
   .have:=pk rfl h1 h2
    rw[e]at this
    rw[if_pos k1']at this
    omega
 |false=>
 rw[Aj]
 cases k2:nI b 0 1==2 with
 |true=>
  have e:pI b=(nI b 0 1,0,rI b 1 12,rI b 13 12,nI b 25 4,rI b 29 16,[],0,0,[],[],()):=by unfold pI;rw[k1,k2];rfl
  have k2':nI b 0 1=2:=by simpa using k2
  rw[Ay]
  by_cases hlen:b.length=45
  .have hg:nI b 25 4=(Xu b 25 4).1.1:=(Bb2 zq0 zq0).trans (Ar0 (b:=b) (i:=25) (n:=4) zq0 zq0).symm
   have hl32:b.length<=4294967296:=by omega
   rw[Ce (by simp[hlen]),Ai zq0,Ar,Ai (slen _ _),Ar,Ai zq0,Ar,Ai (slen _ _),Ar,A2b b 25 4 hl32,Ab,Ai zq0,Ar,Ai zq0,Ar,Ai (slen _ _),Ar,<-hg,show(b.take ((13:Int)).toNat).drop ((1:Int)).toNat=rI b 1 12 from Amg rfl,show(b.take ((25:Int)).toNat).drop ((13:Int)).toNat=rI b 13 12 from Amg rfl,show(b.take ((b.length:Int)).toNat).drop ((29:Int)).toNat=rI b 29 16 from Bqd zq0]
   refine(A3u b _ ?_).trans ?_
   .simp only[A5,rI,List.length_nil,List.length_take,List.length_drop];omega
   .rw[<-e,A3t hb0]
  .rw[Dj zq1,Aw2 (fun h1 h2=>?_)]
   .rfl
   .have:=pk rfl h1 h2
    rw[e]at this
    rw[if_neg zq2,if_pos k2']at this
    omega
 |false=>
 rw[Aj]
 cases k3:nI b 0 1==3 with
 |true=>
  have e:pI b=(nI b 0 1,nI b 1 1,rI b 2 12,rI b 14 12,nI b 26 4,rI b 30 16,rI b 46 16,0,0,[],[],()):=by unfold pI;rw[k1,k2,k3];rfl
  have k3':nI b 0 1=3:=by simpa using k3
  rw[Ay]
  by_cases hlen:b.length=62
  .have hb1:1<b.length:=by omega
   obtain⟨n1,m1⟩:=Byg hw hb1
   have hg:nI b 26 4=(Xu b 26 4).1.1:=(Bb2 zq0 zq0).trans (Ar0 (b:=b) (i:=26) (n:=4) zq0 zq0).symm
   have hl32:b.length<=4294967296:=by omega
   rw[Ce (by simp[hlen]),show idx b (1:Int)=_ from Bc (List.getElem?_eq_getElem hb1),Ab,Ai zq0,Ar,Ai (slen _ _),Ar,Ai zq0,Ar,Ai (slen _ _),Ar,A2b b 26 4 hl32,Ab,Ai zq0,Ar,Ai (slen _ _),Ar,Ar,Ai zq0,Ar,Ai (slen _ _),Ar,<-hg,m1,<-n1,show(b.take ((14:Int)).toNat).drop ((2:Int)).toNat=rI b 2 12 from Amg rfl,show(b.take ((26:Int)).toNat).drop ((14:Int)).toNat=rI b 14 12 from Amg rfl,show(b.take ((46:Int)).toNat).drop ((30:Int)).toNat=rI b 30 16 from Amg rfl,show(b.take ((b.length:Int)).toNat).drop ((46:Int)).toNat=rI b 46 16 from Bqd zq0]
   refine(A3u b _ ?_).trans ?_
   .simp only[A5,rI,List.length_nil,List.length_take,List.length_drop];omega
   .rw[<-e,A3t hb0]
  .rw[Dj zq1,Aw2 (fun h1 h2=>?_)]
   .rfl
   .have:=pk rfl h1 h2
    rw[e]at this
    rw[if_neg zq2,if_neg zq2,if_pos k3']at this
    omega
 |false=>
 rw[Aj]
 have k1':nI b 0 1≠1:=by simpa using k1
 have k2':nI b 0 1≠2:=by simpa using k2
 have k3':nI b 0 1≠3:=by simpa using k3
 have eno:inR (nI b 0 1) 4 8=false->pI b=(nI b 0 1,0,[],[],0,[],[],0,0,[],[],()):=fun k4=>by unfold pI;rw[k1,k2,k3,k4];rfl
 have eyes:inR (nI b 0 1) 4 8=true->pI b=(nI b 0 1,0,[],rI b 1 12,0,[],[],nI b 13 4,nI b 17 6,rI b 39 41,rI b 23 16,()):=fun k4=>by unfold pI;rw[k1,k2,k3,k4];rfl
 have bad: ∀ {f:As},f.1=nI b 0 1->inR (nI b 0 1) 4 8=false->Bm f=true->False:=fun hf k4 h=>by
  rcases A50 h with q|q|q|q
  .exact k1' (hf.symm.trans q)
  .exact k2' (hf.symm.trans q)
  .exact k3' (hf.symm.trans q)
  .rw[hf,k4]at q;cases q
 by_cases hlen:b.length<39
 .rw[Ai zq0,Ay,Aw2 (fun h1 h2=>?_)]
  .rfl
  .have:=pk rfl h1 h2
   cases k4:inR (nI b 0 1) 4 8 with
   |false=>exact bad (by rw[eno k4]) k4 h1
   |true=>
    rw[eyes k4]at this
    rw[if_neg k1',if_neg k2',if_neg k3']at this
    omega
 .have hg1:nI b 13 4=(Xu b 13 4).1.1:=(Bb2 zq0 zq0).trans (Ar0 (b:=b) (i:=13) (n:=4) zq0 zq0).symm
  have hg2:nI b 17 6=(Xu b 17 6).1.1:=(Bb2 zq0 zq0).trans (Ar0 (b:=b) (i:=17) (n:=6) zq0 zq0).symm
  have hl32:b.length<=4294967296:=by omega
  rw[Bk zq0,Aj,Ai zq0,Ar,Ai (slen _ _),Ar,A2b b 13 4 hl32,Ab,A2b b 17 6 hl32,Ab,Ai zq0,Ar,Ai (slen _ _),Ar,Ar,Ai zq0,Ar,Ai (slen _ _),Ar,<-hg1,<-hg2,show(b.take ((13:Int)).toNat).drop ((1:Int)).toNat=rI b 1 12 from Amg rfl,show(b.take ((39:Int)).toNat).drop ((23:Int)).toNat=rI b 23 16 from Amg rfl,show(b.take ((b.length:Int)).toNat).drop ((39:Int)).toNat=b.drop 39 by simp]
  refine(A3u b _ ?_).trans ?_
  .simp only[A5,rI,List.length_nil,List.length_take,List.length_drop];omega
  .cases k4:inR (nI b 0 1) 4 8 with
   |false=>
    rw[Aw2 (fun h1 h2=>bad (by rw[eno k4]) k4 h1)]
    cases hs:Cm (D8 (nI b 0 1,(0:Int),([]:List YB),rI b 1 12,(0:Int),([]:List YB),([]:List YB),nI b 13 4,nI b 17 6,b.drop 39,rI b 23 16,())) b with
    |false=>rfl
    |true=>exact(bad rfl k4 (Bs9 hb0 hs)).elim
   |true=>
    by_cases h80:b.length<=80
    .have:b.drop 39=rI b 39 41:=by unfold rI;rw[List.take_of_length_le zq1]
     rw[this,<-eyes k4,A3t hb0]
    .have big: ∀ {f:As},f.1=nI b 0 1->40<f.2.2.2.2.2.2.2.2.2.1.length->Bm f=true->False:=fun hf hlen h=>by
      obtain⟨_,_,_,c,_⟩:=Vj h (by rw[hf];exact k4)
      have:=Bg8 c
      omega
     rw[Aw2 (fun h1 h2=>big (by rw[eyes k4]) (by rw[eyes k4];simp[rI];omega) h1)]
     cases hs:Cm (D8 (nI b 0 1,(0:Int),([]:List YB),rI b 1 12,(0:Int),([]:List YB),([]:List YB),nI b 13 4,nI b 17 6,b.drop 39,rI b 23 16,())) b with
     |false=>rfl
     |true=>exact(big rfl zq1 (Bs9 hb0 hs)).elim
theorem B0j (x:Au) (h:A5 (frO x)<=536870912):Ag8 (x.2.2.1,x.2.2.2.1,x.2.2.2.2.1,x.2.2.2.2.2.1,x.2.2.2.2.2.2.1,x.2.2.2.2.2.2.2.1,x.2.2.2.2.2.2.2.2.1,x.2.2.2.2.2.2.2.2.2.1,x.2.2.2.2.2.2.2.2.2.2.1,x.2.2.2.2.2.2.2.2.2.2.2.1,x.2.2.2.2.2.2.2.2.2.2.2.2.1,())=some (szO x,()):=Bx9 (frO x) h
theorem Byh (X:A0) (frames:List Au) (hcr:Ch X.2.2.2.2.2.2.1=true) (hl:frames.length<=20000000) (hfr:It frames) (hT:X.2.2.2.2.2.1.length<=4294967296):
  Cu X (frames,())=some (((Fi (X.2.2.2.2.1,X.2.2.2.2.2.1,()) frames X.2.2.2.2.2.2.1).1,()),(X.1,X.2.1,X.2.2.1,X.2.2.2.1,X.2.2.2.2.1,X.2.2.2.2.2.1,(Fi (X.2.2.2.2.1,X.2.2.2.2.2.1,()) frames X.2.2.2.2.2.2.1).2,())):=by
 obtain⟨x1,x2,x3,x4,cap,l,cr,⟨⟩⟩:=X
 dsimp only at hcr hT ⊢
 have e:=C6 (B:=Ot) frames.length (fun i=>(frames,(Fi (cap,l,()) (frames.take i) cr).1,(i:Int),x1,x2,x3,x4,cap,l,(Fi (cap,l,()) (frames.take i) cr).2,())) ((Fi (cap,l,()) frames cr).1,x1,x2,x3,x4,cap,l,(Fi (cap,l,()) frames cr).2,())
  (fun i hi=>by
   have hx:=List.getElem?_eq_getElem hi
   have hxm:=List.getElem_mem hi
   have htk:frames.take (i+1)=frames.take i++[frames[i]]:=by rw[List.take_add_one,hx];rfl
   rw[htk,Bb0]
   obtain⟨_,_,f3,f4,_⟩:=A8c (t:=(cap,l,())) (l:=frames.take i) hcr
   have hc8:=(Dq.1 hcr).1
   have hfo:=(hfr _ hxm).1
   have hfn:=Kq hfo
   have f5:(frames.take i).length<=i:=by simp;omega
   generalize Fi (cap,l,()) (frames.take i) cr=p at f3 f4
   generalize frames[i]=x at hx hxm hfo hfn
   obtain⟨ou,cc⟩:=p
   dsimp only at f3 f4
   unfold Ot Fs
   simp only[Ad,Ae,Aa,Ag]
   rw[Ai zq0,Ay,Bc hx,Ab,Bu6 _ _ hT,Ab,w64 (n:=(i:Int)+1) zq0]
   dsimp only
   cases Ape (cap,l,()) (x.1,x.2.1,())with
   |true=>
    simp only[Bool.not_true,Aj,cond_true,Ab]
    rw[Ai zq1,Ar]
    rfl
   |false=>
    simp only[Bool.not_false,Ay,cond_false,Ab]
    rw[B0j x (Nat.le_trans hfn zq7),Ab,Bx6 cc (x.1,x.2.1,()) _ zq0,Ab]
    dsimp only
    cases Wn cc (x.1,x.2.1,()) (szO x)with
    |none=>rfl
    |some r=>
     dsimp only
     rw[Ai zq1]
     rfl)
  (by
   rw[List.take_length]
   unfold Ot
   simp only[Ad,Ae,Aa,Ag]
   rw[Bk zq0,Aj])
 have e0:Fi (cap,l,()) (frames.take 0) cr=([],cr):=by rw[List.take_zero];rfl
 rw[e0]at e
 unfold Cu Atp
 simp only[Ad,Ae,Aa,Ag]
 rw[show Ax Ot (frames,([]:List Au),(0:Int),x1,x2,x3,x4,cap,l,cr,())=_ from e,Ab]
theorem Apr (b:List YB) (h:b.length<=4294967296):Rj (b,())=some (Ah3 b):=by
 unfold Rj Afk
 simp only[Ae,Aa,Ag,List.nil_append,List.length_nil,Nat.zero_add]
 rw[Ai h];rfl
theorem B1z (a0:A0) (a1:YI) (a2:A6) (a3:YBs):Acp a0 a1 a2 a3=(Un a0 a1 a2 a3).val:=rfl
def Amh (X:A0) (os:List Au):A0:=(X.1,X.2.1,X.2.2.1,X.2.2.2.1,X.2.2.2.2.1,X.2.2.2.2.2.1,(Fi (X.2.2.2.2.1,X.2.2.2.2.2.1,()) os X.2.2.2.2.2.2.1).2,())
def W9 (X:A0) (os:List Au):List Au:=(Fi (X.2.2.2.2.1,X.2.2.2.2.2.1,()) os X.2.2.2.2.2.2.1).1
def A2u (S:A0) (fin init:Bool) (I R:Option (A0×((List Au)×Unit)×((List Am)×Unit))):Prop:=
 ∃X os ns,I=some (X,(os,()),(ns,()))/\Mid S X os ns fin init/\R=some (Amh X os,(W9 X os,()),(ns,()))
theorem A2u.none {S:A0} {fin init:Bool} (hs:Em S=true):A2u S fin init (some (S,(([]:List Au),()),(([]:List Am),()))) (some (S,(([]:List Au),()),(([]:List Am),()))):=
 ⟨S,[],[],rfl,Mid.none hs,rfl⟩
theorem Zr {S X:A0} {os:List Au} {ns:List Am} {fin init:Bool} (h:Mid S X os ns fin init) (hn:A7 S<=1200000):Cu X (os,())=some ((W9 X os,()),Amh X os):=by
 obtain⟨⟨m1,m2,m2'⟩,⟨m3,m4⟩,m5,⟨m6,_,m7⟩,m8,m9,m10⟩:=h
 obtain⟨a1,a2,a3,a4,a5,a6,a7⟩:=Eb.1 m1
 have n2:A7 X=X.1.length+Af Cy X.1+X.2.1.length+X.2.2.1.length+(Br X).length+Af Ap (Br X)+(J7 X).length:=rfl
 exact Byh X os a5 m3 m2 (by show(Br X).length<=_;omega)
theorem B0k (S:A0) (n:YI) (a:A6) (f:As) (c0:List Ak) (hs:Em S=true) (hn:A7 S<=1200000) (ha:Ck a=true) (ht:inR n.1 0 1000000=true) (hf:Bm f=true) (hk:f.1=1):
  A2u S false true (To S n a f) (Bd0 (S.1,S.2.1,S.2.2.1,S.2.2.2.1,S.2.2.2.2.1,S.2.2.2.2.2.1,c0,()) n a (S.1,S.2.1,S.2.2.1,S.2.2.2.1,S.2.2.2.2.1,S.2.2.2.2.2.1,c0,()) (S.2.2.2.2.2.2.1,()) f).val:=by
 have hmid:=Byc S n a f hs hn ha ht hf hk
 obtain⟨a1,a2,a3,a4,a5,a6,a7⟩:=Eb.1 hs
 obtain⟨i1,i2⟩:=Awz hf hk
 have hcr:=(Dq.1 a5).1
 have hj:S.2.1.length=32:=by simp only[beq_iff_eq]at a2;omega
 have hsd:S.2.2.1.length<=32:=by
  unfold Ga at a3
  simp only[Bool.and_eq_true,Bt]at a3
  omega
 have hdN:0<=S.2.2.2.1/\S.2.2.2.1<=10000:=by
  unfold Ga at a3
  simp only[Bool.and_eq_true,Bt]at a3
  omega
 unfold To Aat at hmid ⊢
 unfold Bd0
 simp only[Ad,Ae,Aa,Ag,List.nil_append,List.length_nil,Nat.zero_add]at hmid ⊢
 by_cases hid:f.2.1>(S.1.length:Int)
 .rw[Ai hid,Ay,Ay];exact A2u.none hs
 rw[Bk hid,Aj]at hmid
 rw[Bk hid,Aj,Aj]
 rw[Akq S a _ zq0,Ab]at hmid
 rw[Akq S a _ zq0,Ab,show Uz (S.1,S.2.1,S.2.2.1,S.2.2.2.1,S.2.2.2.2.1,S.2.2.2.2.2.1,S.2.2.2.2.2.2.1,()) a ((45:Int),())=_ from Ble S a ((45:Int),()) zq0,Ab]
 cases hask:Ari S a (45:Int)with
 |false=>exact A2u.none hs
 |true=>
 rw[hask]at hmid
 simp only[Bool.not_true,Aj]at hmid ⊢
 by_cases hN:S.2.2.2.1≥(10000:Int)
 .rw[Ai hN,Ay,Dj (by simp only[beq_iff_eq];omega)];exact A2u.none hs
 rw[Bk hN,Aj]at hmid
 rw[Bk hN,Aj,Ce (by simp only[beq_eq_false_iff_ne,ne_eq];omega)]
 have hroll:Gb (S.2.2.1,S.2.2.2.1,())=((S.2.2.1,S.2.2.2.1+1,()),T4 S.2.2.1 S.2.2.2.1):=by
  unfold Gb;rw[if_pos ⟨a3,by dsimp only;omega⟩]
 have h12:=Bg6 a3
 rw[A2g _ zq2,hroll,Ab]at hmid
 rw[A2g _ zq2,Bvn _ zq2,hroll,Ab,Ab]
 obtain⟨n,⟨⟩⟩:=n
 dsimp only at ht hmid ⊢
 have hb:=Np (a:=a) (id:=f.2.1) (t:=n) i2 h12
 rw[Akw S.2.1 a f.2.1 f.2.2.1 _ n hj ha i1 i2 h12 ht,Ab,B0 _ zq2,Ab,B0 _ zq2,Ab,Ada a f.2.1 f.2.2.1 _ n ha i1 i2 h12 ht,Ab,Bbs _ _ zq0 zq0,Ab,Abz _ zq0,Ab]at hmid
 rw[Akw S.2.1 a f.2.1 f.2.2.1 _ n hj ha i1 i2 h12 ht,Ab,B0 _ zq2,Ab,B0 _ zq2,Ab,Ada a f.2.1 f.2.2.1 _ n ha i1 i2 h12 ht,Ab,Bbs _ _ zq0 zq0,Ab,Abz _ zq0,Ab]
 obtain⟨r,hr,hm⟩:=hmid
 simp only[Option.some.injEq]at hr
 subst hr
 refine⟨_,_,_,rfl,hm,?_⟩
 rw[Ai zq0,Ar,Bmb S.2.1 a f.2.1 f.2.2.1 _ n hj ha i1 i2 h12 ht,Ab,Apr _ zq0,Ab,A8b a f.2.1 f.2.2.1 _ n ha i1 i2 h12 ht,Ab,Bvr _ _ zq0 zq0,Ab,Ai zq3,Ar,Ai zq3,Ar]
 have ho:=Zr hm hn
 dsimp only at ho ⊢
 rw[ho,Ab]
theorem Bwf {X:A0} {i:Int} {x:Al} {ns0:List Am} {S Y:A0} {os:List Au} {ns:List Am} {fin init:Bool} (hX:Em X=true) (hn:A7 X<=1400000) (h0:0<=i) (hx:(Br X)[i.toNat]? =some x) (hd:Cw x=false) (hnl:ns0.length<=100) (hS:A7 S<=1200000)
  (hr:(ob (Ky x) fun r19=>ob (G5 (X.2.2.2.2.1,Br X,()) (i,()) r19.1) fun r20=>chk (decide (ns0.length+r19.2.2.1.length<=4294967296)) (some ((X.1,X.2.1,X.2.2.1,X.2.2.2.1,r20.1.1,r20.1.2.1,J7 X,()),r19.2.1,((ns0++r19.2.2.1),()))))=some (Y,(os,()),(ns,()))) (hm:Mid S Y os ns fin init):
  (ob (V9 x) fun r29=>ob (some x) fun _=>chk (decide (([]:List Au).length+r29.2.1.1.length<=4294967296)) (chk (decide (ns0.length+r29.2.2.1.length<=4294967296)) (ob (Cu (X.1,X.2.1,X.2.2.1,X.2.2.2.1,X.2.2.2.2.1,(Br X).set i.toNat r29.1,J7 X,()) ((([]:List Au)++r29.2.1.1),())) fun r32=>some (r32.2,r32.1,((ns0++r29.2.2.1),())))))=some (Amh Y os,(W9 Y os,()),(ns,())):=by
 obtain⟨a1,a2,a3,a4,a5,a6,a7⟩:=Eb.1 hX
 have hxm:x∈Br X:=List.mem_of_getElem? hx
 have hsm:Ap x<=Af Ap (Br X):=Adb (f:=Ap) hxm
 have e2:A7 X=X.1.length+Af Cy X.1+X.2.1.length+X.2.2.1.length+(Br X).length+Af Ap (Br X)+(J7 X).length:=rfl
 have ho:C8 x=true:=((Zq (by show(Br X).length<=_;omega)).1 a4).2.2.2.1 x hxm
 obtain⟨r,os1,ns1,r1,rs,r3,r4,r5,r6⟩:=Bbt x zq0
 obtain⟨r7,r8,r9⟩:=r6 ho hd
 have hnt:Bj (X.2.2.2.2.1,Br X,())<=1400000:=by simp only[Bj];omega
 obtain⟨p1,_,_⟩:=Bjb (t:=(X.2.2.2.2.1,Br X,())) (y:=r) zq0 a4 h0 hx r7 r8 (by rw[r9,hd])
 rw[r1,Ab,p1,Ab,Ai zq2,Ar]at hr
 simp only[Option.some.injEq,Prod.mk.injEq,and_true]at hr
 obtain⟨rfl,rfl,rfl⟩:=hr
 have hout:=Zr hm hS
 rw[rs,Ab,Ab,Ai zq1,Ai zq2,Ar,Ar,List.nil_append]
 dsimp only at hout ⊢
 rw[hout,Ab]
theorem B10 (S:A0) (n:YI) (a:A6) (f:As) (c0:List Ak) (hs:Em S=true) (hn:A7 S<=1200000):
  A2u S true false (Pf S n a f) (Bk7 (S.1,S.2.1,S.2.2.1,S.2.2.2.1,S.2.2.2.2.1,S.2.2.2.2.2.1,c0,()) n a (S.1,S.2.1,S.2.2.1,S.2.2.2.1,S.2.2.2.2.1,S.2.2.2.2.2.1,c0,()) (S.2.2.2.2.2.2.1,()) f).val:=by
 obtain⟨⟨X,⟨os,⟨⟩⟩,⟨ns,⟨⟩⟩⟩,hr,hm⟩:=B0g S n a f hs hn
 dsimp only at hm
 refine⟨X,os,ns,hr,hm,?_⟩
 obtain⟨a1,a2,a3,a4,a5,a6,a7⟩:=Eb.1 hs
 have e2:A7 S=S.1.length+Af Cy S.1+S.2.1.length+S.2.2.1.length+(Br S).length+Af Ap (Br S)+(J7 S).length:=rfl
 have hj:S.2.1.length=32:=by simp only[beq_iff_eq]at a2;omega
 have hnt:Bj (S.2.2.2.2.1,S.2.2.2.2.2.1,())<=1200000:=by
  show(Br S).length+Af Ap (Br S)<=_
  omega
 have leafN:some (S,(([]:List Au),()),(([]:List Am),()))=some (X,(os,()),(ns,()))->some (S,(([]:List Au),()),(([]:List Am),()))=some (Amh X os,(W9 X os,()),(ns,())):=fun h=>by
  simp only[Option.some.injEq,Prod.mk.injEq,and_true]at h
  obtain⟨rfl,rfl,rfl⟩:=h
  rfl
 unfold Pf Us at hr
 unfold Bk7
 simp only[Ad,Ae,Aa,Ag]at hr ⊢
 obtain⟨k,k1,k2,k3⟩:=Bya S.2.1 n a f
 rw[k1,Ab]at hr
 rw[k2,Ab]
 cases hk0:(k != (0:Int))with
 |true=>rw[hk0]at hr;exact leafN hr
 |false=>
 rw[hk0,Aj]at hr
 rw[Aj]
 by_cases hid:f.2.1>(S.1.length:Int)
 .rw[Ai hid]at hr ⊢;exact leafN hr
 rw[Bk hid,Aj]at hr ⊢
 have hk0:k=0:=by simpa using hk0
 obtain⟨_,ht,ha,hk,hf⟩:=k3 hk0
 obtain⟨c1,c2,c3,c4,c5,c6⟩:=Qc hf hk
 obtain⟨⟨e,⟨⟩⟩,he,hpsk⟩:=Bwe hs c1 zq0
 obtain⟨pk,pk1,pk2⟩:=Bs6 e f
 rw[he,Ab,pk1,Ab]at hr
 rw[he,Ab,pk2,Ab]
 cases pk with
 |false=>exact leafN hr
 |true=>
 simp only[Bool.not_true,Aj]at hr ⊢
 have hTl:(S.2.2.2.2.1,S.2.2.2.2.2.1,()).2.1.length<=4294967296:=by show(Br S).length<=_;omega
 rw[Qr _ _ hTl,Ab]at hr
 rw[Awl _ _ hTl,Ab]
 by_cases hneg:Ed S.2.2.2.2.2.1 f.2.2.2.1<0
 .rw[Ai hneg,Ay,Ab]at hr
  rw[Ai hneg,Ay,Ab]
  obtain⟨r6,n1,s1,s2,s3,s4,s5,s6,s7⟩:=A2t e n a f hpsk ht ha hf hk
  obtain⟨r6',m1,m2,_⟩:=Bbp (e,()) n a f (by have:=Kq hf;omega)
  have hrr:r6'=r6:=Option.some.inj (m1.symm.trans n1)
  subst hrr
  rw[n1,Ab]at hr
  rw[m2,Ab]
  obtain⟨t,b,t1,t2,_⟩:=Bsi (S.2.2.2.2.1,S.2.2.2.2.2.1,()) r6' zq0
  obtain⟨⟨t',b',⟨⟩⟩,t3,h7⟩:=Bzk (S.2.2.2.2.1,S.2.2.2.2.2.1,()) r6' zq0
  rw[t1]at t3
  simp only[Option.some.injEq,Prod.mk.injEq,and_true]at t3
  obtain⟨rfl,rfl⟩:=t3
  rw[t1,Ab]at hr
  rw[t2,Ab]
  dsimp only at h7 hr ⊢
  cases hb0:(b != (0:Int))with
  |true=>rw[hb0]at hr;exact leafN hr
  |false=>
  rw[hb0,Aj]at hr
  rw[Aj]
  have h0:b=0:=by simpa using hb0
  obtain⟨q1,q2,q3,q4⟩:=Bv8 hTl h7 h0
  obtain⟨_,_,_,_,_,_,q5⟩:=h7.2 h0
  subst q5
  have hfk:=A2n hpsk
  have hpb:(Hs f.2.1 f.2.2.1 f.2.2.2.1 f.2.2.2.2.1 f.2.2.2.2.2.1).length<=46:=by rw[Ayp];cases T6 f.2.1 f.2.2.1 f.2.2.2.1 f.2.2.2.2.1 f.2.2.2.2.2.1<;>simp
  have hmb:=Np (a:=a) (id:=f.2.1) (t:=f.2.2.2.2.1) c2 c3
  rw[Ada a f.2.1 f.2.2.1 f.2.2.2.1 f.2.2.2.2.1 ha c1 c2 c3 c4,Ab,Ars _ _ _ zq0 zq0 zq0,Ab,App,Ab,Apq,Ab,Ars _ _ _ zq0 zq0 zq0,Ab,B0 _ zq2,Ab,B0 _ zq2,Ab,B0 _ zq2,Ab,Ai zq3,Ar]at hr
  rw[A8b a f.2.1 f.2.2.1 f.2.2.2.1 f.2.2.2.2.1 ha c1 c2 c3 c4,Ab,Bl4 _ _ _ zq0 zq0 zq0,Ab,Ai zq3,Ar,Ab,A5w,Ab,A5x,Ab,Bl4 _ _ _ zq0 zq0 zq0,Ab,Ai zq3,Ar,Ai zq1,Ar,Ai zq1,Ar,Ai zq1,Ar,Ai zq3,Ar]
  have hfs:Ed (S.2.2.2.2.2.1++[r6']) f.2.2.2.1=((Br S).length:Int):=by rw[<-s5];exact q3
  have hgx:(S.2.2.2.2.2.1++[r6'])[(((Br S).length:Nat):Int).toNat]? =some r6':=by simp[Br]
  have hidx:idx (S.2.2.2.2.2.1++[r6']) (((Br S).length:Nat):Int)=some r6':=by unfold idx;rw[if_pos zq0];exact hgx
  have hlast:IntKind.i64.wrap ((((S.2.2.2.2.2.1++[r6']).length:Nat):Int)-1)=(((Br S).length:Nat):Int):=by
   have:(S.2.2.2.2.2.1++[r6']).length=(Br S).length+1:=by simp[Br]
   rw[this,w64 zq0];omega
  have hd2:r6'.2.2.2.2.2.2.2.2.2.2.2.2.2.2.2.2.2.2.2.2.2.2.2.1=false:=s2
  have hsm:Cm r6'.2.1 f.2.2.1=true:=by rw[s4];exact Qs _
  rw[Qr _ _ (by show(Br S++[r6']).length<=_;simp;omega),Ab,hfs,hidx,Ab,Ce hd2,Ce (by simp[s3]),Ge,Ab,hsm,Ce (by rfl)]at hr
  rw[hlast,hidx,Ab,hd2,Bool.not_false,Ay,Dj (by simp[s3]),Tu,Ab,hsm,Ay]
  have hXn:A7 (S.1,S.2.1,S.2.2.1,S.2.2.2.1,S.2.2.2.2.1,S.2.2.2.2.2.1++[r6'],S.2.2.2.2.2.2.1,())<=1400000:=by
   show S.1.length+Af Cy S.1+S.2.1.length+S.2.2.1.length+(Br S++[r6']).length+Af Ap (Br S++[r6'])+(J7 S).length<=1400000
   rw[Iz,List.length_append];simp[Af];omega
  have hXo:Em (S.1,S.2.1,S.2.2.1,S.2.2.2.1,S.2.2.2.2.1,S.2.2.2.2.2.1++[r6'],S.2.2.2.2.2.2.1,())=true:=Eb.2 ⟨a1,a2,a3,q1,a5,a6,fun z hz=>by
   rcases List.mem_append.1 hz with hz|hz
   .exact a7 z hz
   .rw[List.mem_singleton.1 hz,s3];show f.2.1<=(S.1.length:Int);omega⟩
  exact Bwf (S:=S) hXo hXn zq0 hgx s2 zq3 hn hr hm
 .rw[Bk hneg,Aj,Ab]at hr
  rw[Bk hneg,Aj]
  obtain⟨x,hx,hix⟩:=Ahl (l:=S.2.2.2.2.2.1) (s:=f.2.2.2.1) (Int.not_lt.1 hneg)
  have hno:Cu (S.1,S.2.1,S.2.2.1,S.2.2.2.1,S.2.2.2.2.1,S.2.2.2.2.2.1,S.2.2.2.2.2.2.1,()) (([]:List Au),())=some ((([]:List Au),()),S):=Zr (Mid.none (S:=S) (fin:=true) (init:=true) hs) hn
  rw[hix,Ab]at hr
  rw[hix,Ab]
  cases hd:Cw x with
  |true=>
   have hd2:x.2.2.2.2.2.2.2.2.2.2.2.2.2.2.2.2.2.2.2.2.2.2.2.1=true:=hd
   rw[Dj hd2]at hr
   rw[hd2,Bool.not_true,Aj,hno,Ab]
   exact leafN hr
  |false=>
  have hd2:x.2.2.2.2.2.2.2.2.2.2.2.2.2.2.2.2.2.2.2.2.2.2.2.1=false:=hd
  rw[Ce hd2]at hr
  rw[hd2,Bool.not_false,Ay]
  by_cases hxi:x.1=f.2.1
  case neg=>
   rw[Dj (by simpa using hxi)]at hr
   rw[Ce (by simpa using hxi),hno,Ab]
   exact leafN hr
  case pos=>
  rw[Ce (by simp[hxi]),Ge,Ab]at hr
  rw[Dj (by simp[hxi]),Tu,Ab]
  cases hsm:Cm x.2.1 f.2.2.1 with
  |false=>
   rw[hsm]at hr
   rw[Aj,hno,Ab]
   exact leafN hr
  |true=>
  rw[hsm]at hr
  simp only[Bool.not_true,Aj]at hr
  rw[Ay]
  exact Bwf (S:=S) (X:=S) (ns0:=[]) hs zq0 (Int.not_lt.1 hneg) hx hd zq3 hn hr hm
theorem B0l (S:A0) (n:YI) (a:A6) (f:As) (c0:List Ak) (hs:Em S=true) (hn:A7 S<=1200000) (ha:Ck a=true) (ht:inR n.1 0 1000000=true) (hf:Bm f=true) (hk:inR f.1 4 8=true) (w1:wfB f.2.2.2.1) (w2: ∀x∈Br S,wfB (Cq x).2.1):
  A2u S false false (Kc S n a f) (Bd1 (S.1,S.2.1,S.2.2.1,S.2.2.2.1,S.2.2.2.2.1,S.2.2.2.2.2.1,c0,()) n a (S.1,S.2.1,S.2.2.1,S.2.2.2.1,S.2.2.2.2.1,S.2.2.2.2.2.1,c0,()) (S.2.2.2.2.2.2.1,()) f).val:=by
 obtain⟨⟨X,⟨os,⟨⟩⟩,⟨ns,⟨⟩⟩⟩,hr,hm⟩:=Bye S n a f hs hn ha ht hf hk w1 w2
 dsimp only at hm
 refine⟨X,os,ns,hr,hm,?_⟩
 obtain⟨a1,a2,a3,a4,a5,a6,a7⟩:=Eb.1 hs
 have e2:A7 S=S.1.length+Af Cy S.1+S.2.1.length+S.2.2.1.length+(Br S).length+Af Ap (Br S)+(J7 S).length:=rfl
 have hnt:Bj (S.2.2.2.2.1,S.2.2.2.2.2.1,())<=1200000:=by
  show(Br S).length+Af Ap (Br S)<=_
  omega
 have hfn:=Kq hf
 have hbody:=Vj hf hk
 have leafN:some (S,(([]:List Au),()),(([]:List Am),()))=some (X,(os,()),(ns,()))->some (S,(([]:List Au),()),(([]:List Am),()))=some (Amh X os,(W9 X os,()),(ns,())):=fun h=>by
  simp only[Option.some.injEq,Prod.mk.injEq,and_true]at h
  obtain⟨rfl,rfl,rfl⟩:=h
  rfl
 have hr2:=Blr (S.2.2.1,S.2.2.2.1,())
 unfold Kc Ob at hr
 unfold Bd1
 simp only[Ad,Ae,Aa,Ag]at hr ⊢
 have hTl:(S.2.2.2.2.1,S.2.2.2.2.2.1,()).2.1.length<=4294967296:=by show(Br S).length<=_;omega
 rw[Qr _ _ hTl,Ab]at hr
 rw[Awl _ _ hTl,Ab]
 by_cases hneg:Ed S.2.2.2.2.2.1 f.2.2.2.1<0
 .rw[Ai hneg]at hr ⊢;exact leafN hr
 rw[Bk hneg,Aj]at hr ⊢
 obtain⟨x,hx,hix⟩:=Ahl (l:=S.2.2.2.2.2.1) (s:=f.2.2.2.1) (Int.not_lt.1 hneg)
 have hxm:x∈Br S:=List.mem_of_getElem? hx
 have hsm:Ap x<=Af Ap (Br S):=Adb (f:=Ap) hxm
 have ho:C8 x=true:=((Zq (by show(Br S).length<=_;omega)).1 a4).2.2.2.1 x hxm
 rw[hix,Ab]at hr
 rw[hix,Ab]
 cases hd:Cw x with
 |true=>
  have hd2:x.2.2.2.2.2.2.2.2.2.2.2.2.2.2.2.2.2.2.2.2.2.2.2.1=true:=hd
  rw[Dj hd2]at hr ⊢;exact leafN hr
 |false=>
 have hd2:x.2.2.2.2.2.2.2.2.2.2.2.2.2.2.2.2.2.2.2.2.2.2.2.1=false:=hd
 rw[Ce hd2]at hr ⊢
 rw[A2g _ zq2,Ab,Akq S a _ zq0,Ab]at hr
 rw[Bvn _ zq2,Ab,show Uz (S.1,S.2.1,S.2.2.1,S.2.2.2.1,S.2.2.2.2.1,S.2.2.2.2.2.1,S.2.2.2.2.2.2.1,()) a ((51:Int),())=_ from Ble S a ((51:Int),()) zq0,Ab]
 have key: ∀(d:List YB),d.length<=12->
   (ob (some x) fun e5=>ob (Jg e5 n a f (d,())) fun r6=>ob (G5 (S.2.2.2.2.1,S.2.2.2.2.2.1,()) (Ed S.2.2.2.2.2.1 f.2.2.2.1,()) r6.1) fun r7=>br r6.2.2.2.1 (ob (Bg (f.2.2.2.1,())) fun r8=>ob (Bg (d,())) fun r9=>ob (Lw (d,())) fun r10=>chk (decide ([r10].length+r6.2.2.1.1.length<=4294967296)) (chk (decide (([r10]++r6.2.2.1.1).length+[((7:Int),(0:Int),(0:Int),([]:List YB),r8.1,(0:Int),(0:Int),r9.1,([]:List YB),a.1,a.2.1,n.1,())].length<=4294967296)) (some ((S.1,S.2.1,(Gb (S.2.2.1,S.2.2.2.1,())).1.1,(Gb (S.2.2.1,S.2.2.2.1,())).1.2.1,r7.1.1,r7.1.2.1,S.2.2.2.2.2.2.1,()),r6.2.1,((([r10]++r6.2.2.1.1)++[((7:Int),(0:Int),(0:Int),([]:List YB),r8.1,(0:Int),(0:Int),r9.1,([]:List YB),a.1,a.2.1,n.1,())]),()))))) (some ((S.1,S.2.1,S.2.2.1,S.2.2.2.1,r7.1.1,r7.1.2.1,S.2.2.2.2.2.2.1,()),r6.2.1,r6.2.2.1)))=some (X,(os,()),(ns,()))->
   ∃r ms k,Tk x n a f (d,())=some (r,(os,()),(ms,()),(k,()))/\os.length<=18000000/\ms.length<=18000000/\(k=true->X=(S.1,S.2.1,(Gb (S.2.2.1,S.2.2.2.1,())).1.1,(Gb (S.2.2.1,S.2.2.2.1,())).1.2.1,S.2.2.2.2.1,S.2.2.2.2.2.1.set (Ed S.2.2.2.2.2.1 f.2.2.2.1).toNat r,S.2.2.2.2.2.2.1,())/\ns=([Ah3 d]++ms)++[((7:Int),(0:Int),(0:Int),([]:List YB),f.2.2.2.1,(0:Int),(0:Int),d,([]:List YB),a.1,a.2.1,n.1,())])/\(k=false->X=(S.1,S.2.1,S.2.2.1,S.2.2.2.1,S.2.2.2.2.1,S.2.2.2.2.2.1.set (Ed S.2.2.2.2.2.1 f.2.2.2.1).toNat r,S.2.2.2.2.2.2.1,())/\ns=ms):=fun d hdl h=>by
  obtain⟨r,os1,ms,k,r1,rs,r3,r4,r5⟩:=A5y x n a f (d,()) zq0 zq0 zq2 w1 (w2 x hxm)
  dsimp only at r4 r5
  have hW:=Bwc x n a f (d,()) zq0 zq0 w1 (w2 x hxm) ho hd hdl r1
  have hg:C8 r=true/\r.2.2.1=x.2.2.1/\Cw r=false:=by
   rcases hW with⟨rfl,rfl,rfl,rfl⟩|⟨g1,g2,g3,g4,g5,g6,_⟩
   .exact⟨ho,rfl,hd⟩
   .exact⟨g1,g5,g6⟩
  obtain⟨p1,_,_⟩:=Bjb (t:=(S.2.2.2.2.1,S.2.2.2.2.2.1,())) (y:=r) zq0 a4 (Int.not_lt.1 hneg) hx hg.1 hg.2.1 (by rw[hg.2.2,hd])
  have hosl:os1.length<=18000000:=by omega
  have hnsl:ms.length<=18000000:=by omega
  rw[Ab,r1,Ab,p1,Ab]at h
  cases k with
  |true=>
   dsimp only at h
   rw[Ay,B0 _ zq2,Ab,B0 _ zq2,Ab,Abz _ zq0,Ab,Ai Abo,Ar,Ai Abo,Ar]at h
   simp only[Option.some.injEq,Prod.mk.injEq,and_true]at h
   obtain⟨rfl,rfl,rfl⟩:=h
   exact⟨r,ms,true,rs,hosl,hnsl,fun _=>⟨rfl,rfl⟩,fun h=>by cases h⟩
  |false=>
   dsimp only at h
   rw[Aj]at h
   simp only[Option.some.injEq,Prod.mk.injEq,and_true]at h
   obtain⟨rfl,rfl,rfl⟩:=h
   exact⟨r,ms,false,rs,hosl,hnsl,(fun h=>by cases h),fun _=>⟨rfl,rfl⟩⟩
 cases hask:Ari S a (51:Int)with
 |false=>
  rw[hask]at hr
  simp only[Bool.not_false,Ay]at hr ⊢
  obtain⟨r,ms,k,rs,hl1,hl2,ht1,hf1⟩:=key [] zq3 hr
  rw[Ab,rs,Ab,Ab]
  dsimp only
  simp only[List.nil_append]
  rw[Ai Abo,Ar]
  cases k with
  |true=>
   obtain⟨rfl,rfl⟩:=ht1 rfl
   have hout:=Zr hm hn
   rw[Ay,Apr _ (by first|omega|simp),Ab,Ai zq3,Ar,Ai Abo,Ar,Ay,Ai Abo,Ar,Ai Abo,Ar,Ai Abo,Ar]
   rw[show Cu _ (os,())=_ from hout,Ab]
  |false=>
   obtain⟨rfl,rfl⟩:=hf1 rfl
   have hout:=Zr hm hn
   rw[Aj,Ai Abo,Ar,Aj]
   rw[show Cu _ (os,())=_ from hout,Ab]
 |true=>
  rw[hask]at hr
  simp only[Bool.not_true,Aj]at hr ⊢
  obtain⟨r,ms,k,rs,hl1,hl2,ht1,hf1⟩:=key (Gb (S.2.2.1,S.2.2.2.1,())).2 hr2 hr
  rw[Ab,rs,Ab,Ab]
  dsimp only
  simp only[List.nil_append]
  rw[Ai Abo,Ar]
  cases k with
  |true=>
   obtain⟨rfl,rfl⟩:=ht1 rfl
   have hout:=Zr hm hn
   rw[Ay,Apr _ (by first|omega|simp),Ab,Ai zq3,Ar,Ai Abo,Ar,Ay,Ai Abo,Ar,Ai Abo,Ar,Ai Abo,Ar]
   rw[show Cu _ (os,())=_ from hout,Ab]
  |false=>
   obtain⟨rfl,rfl⟩:=hf1 rfl
   have hout:=Zr hm hn
   rw[Aj,Ai Abo,Ar,Aj]
   rw[show Cu _ (os,())=_ from hout,Ab]
def Btb (S x:A0) (os:List Au) (ns:List Am):Prop:=os=[]/\ns=[]/\x=(S.1,S.2.1,S.2.2.1,S.2.2.2.1,S.2.2.2.2.1,S.2.2.2.2.2.1,x.2.2.2.2.2.2.1,())/\x.2.2.2.2.2.2.1.length<=S.2.2.2.2.2.2.1.length+1
theorem B0m (S:A0) (n:YI) (a:A6) (b:YBs) (hn:A7 S<=1100000) (hb:WL b) (hb2:b.1.length<=1200000) (hw: ∀x∈Br S,wfB (Cq x).2.1):
  ∃x os ns,U6 S n a b=some (x,(os,()),(ns,()))/\Acp S n a b=some (x,(os,()),(ns,()))/\A7 x<=8388608/\ns.length<=20000000/\os.length<=20000000/\It os/\Ht ns/\(Em S=false\/(gI b.1).2.1=false->Btb S x os ns):=by
 have eI:Pe b=some (gI b.1):=Bs8 b.1 hb.2
 have eS:Aa2 b=some (gI b.1):=Bta b.1 hb.1 (Nat.le_trans hb2 zq7)
 obtain⟨p,hp1,hp⟩:=Bpd b hb
 have hpe:p=gI b.1:=Option.some.inj (hp1.symm.trans eI)
 subst hpe
 have q0:Btb S S [] []:=⟨rfl,rfl,rfl,by omega⟩
 rw[B1z]
 unfold U6 Ut Un
 simp only[Ad,Ae,Aa,Ag]
 rw[Blt S zq0,Ab,Bsg S zq0,Ab,Cf,Ab,Ic,Ab,Bvt S zq0,Ab,Bsh S zq0,Ab,C4,Ab,Lz,Ab]
 cases hs:Em S with
 |false=>exact⟨S,[],[],rfl,rfl,by omega,by simp,by simp,fun _ h=>(by cases h),fun _ h=>(by cases h),fun _=>q0⟩
 |true=>
 cases ht:inR n.1 0 1000000 with
 |false=>exact⟨S,[],[],rfl,rfl,by omega,by simp,by simp,fun _ h=>(by cases h),fun _ h=>(by cases h),fun _=>q0⟩
 |true=>
 cases ha:Ck a with
 |false=>exact⟨S,[],[],rfl,rfl,by omega,by simp,by simp,fun _ h=>(by cases h),fun _ h=>(by cases h),fun _=>q0⟩
 |true=>
 simp only[Bool.not_true,Aj]
 obtain⟨a1,a2,a3,a4,a5,a6,a7⟩:=Eb.1 hs
 have hc8:=(Dq.1 a5).1
 rw[B0e _ _ _ zq0,Ab,show Avi (S.2.2.2.2.2.2.1,()) a ((b.1.length:Int),())=_ from B0b S.2.2.2.2.2.2.1 a ((b.1.length:Int),()) zq0,Ab,eI,Ab,eS,Ab]
 dsimp only
 obtain⟨gk,gs⟩:=Bx4 (a:=a) (n:=(b.1.length:Int)) a5
 have gl:=Bwa S.2.2.2.2.2.2.1 a (b.1.length:Int)
 generalize Aem S.2.2.2.2.2.2.1 a (b.1.length:Int)=cc at gk gs gl
 generalize gI b.1=p at hp
 obtain⟨f,ok,⟨⟩⟩:=p
 dsimp only at hp ⊢
 have n2:A7 S=S.1.length+Af Cy S.1+S.2.1.length+S.2.2.1.length+(Br S).length+Af Ap (Br S)+(J7 S).length:=rfl
 have hS0:Em (S.1,S.2.1,S.2.2.1,S.2.2.2.1,S.2.2.2.2.1,S.2.2.2.2.2.1,cc,())=true:=Eb.2 ⟨a1,a2,a3,a4,gk,a6,a7⟩
 have hN0:A7 (S.1,S.2.1,S.2.2.1,S.2.2.2.1,S.2.2.2.2.1,S.2.2.2.2.2.1,cc,())<=1200000:=by
  have e1:A7 (S.1,S.2.1,S.2.2.1,S.2.2.2.1,S.2.2.2.2.1,S.2.2.2.2.2.1,cc,())=S.1.length+Af Cy S.1+S.2.1.length+S.2.2.1.length+(Br S).length+Af Ap (Br S)+cc.length:=rfl
  have:(J7 S).length=S.2.2.2.2.2.2.1.length:=rfl
  omega
 have hTl:S.2.2.2.2.2.1.length<=4294967296:=by show(Br S).length<=_;omega
 have run: ∀ {X:A0} {os:List Au} {ns:List Am} {fin init:Bool},Mid (S.1,S.2.1,S.2.2.1,S.2.2.2.1,S.2.2.2.2.1,S.2.2.2.2.2.1,cc,()) X os ns fin init->Ax Dm (ns,([]:List Au),os,(os.length:Int),(0:Int),([]:List YBs),([]:List YB),([]:List YB),(0:Int),(0:Int),([]:List Al),([]:List Ak),X.1,X.2.1,X.2.2.1,X.2.2.2.1,X.2.2.2.2.1,X.2.2.2.2.2.1,X.2.2.2.2.2.2.1,())=some (ns,W9 X os,([]:List YBs),([]:List YB),([]:List YB),(0:Int),(0:Int),([]:List Al),([]:List Ak),(Amh X os))/\A7 (Amh X os)<=8388608/\ns.length<=20000000/\(W9 X os).length<=20000000/\It (W9 X os)/\Ht ns:=fun {X os ns fin init} h=>by
  obtain⟨⟨m1,m2,m2'⟩,⟨m3,m4⟩,m5,⟨m6,_,m7⟩,m8,m9,m10⟩:=h
  obtain⟨b1,b2,b3,b4,b5,b6,b7⟩:=Eb.1 m1
  have n3:A7 X=X.1.length+Af Cy X.1+X.2.1.length+X.2.2.1.length+(Br X).length+Af Ap (Br X)+(J7 X).length:=rfl
  have hT:X.2.2.2.2.2.1.length<=4294967296:=by show(Br X).length<=_;omega
  obtain⟨s1,s2,s3,s4,s5⟩:=A8c (t:=(X.2.2.2.2.1,X.2.2.2.2.2.1,())) (l:=os) b5
  refine⟨Byf ns os X.2.2.2.2.2.2.1 _ _ _ _ _ _ _ X.1 X.2.1 X.2.2.1 X.2.2.2.1 X.2.2.2.2.1 X.2.2.2.2.2.1 b5 m3 m2 hT,?_,m4,Nat.le_trans s4 m3,fun o ho=>m2 o (s5 o ho),m2'⟩
  have n4:A7 (Amh X os)=X.1.length+Af Cy X.1+X.2.1.length+X.2.2.1.length+(Br X).length+Af Ap (Br X)+(Fi (X.2.2.2.2.1,X.2.2.2.2.2.1,()) os X.2.2.2.2.2.2.1).2.length:=rfl
  have:(J7 X).length=X.2.2.2.2.2.2.1.length:=rfl
  omega
 obtain⟨z1,z2,_⟩:=run (Mid.none (fin:=false) (init:=false) hS0)
 have z1:Ax Dm (([]:List Am),([]:List Au),([]:List Au),(([]:List Au).length:Int),(0:Int),([]:List YBs),([]:List YB),([]:List YB),(0:Int),(0:Int),([]:List Al),([]:List Ak),S.1,S.2.1,S.2.2.1,S.2.2.2.1,S.2.2.2.2.1,S.2.2.2.2.2.1,cc,())=_:=z1
 have hno:Cu (S.1,S.2.1,S.2.2.1,S.2.2.2.1,S.2.2.2.2.1,S.2.2.2.2.2.1,cc,()) (([]:List Au),())=_:=Zr (Mid.none (fin:=false) (init:=false) hS0) hN0
 cases ok with
 |false=>
  simp only[Bool.not_false,Ay]
  rw[z1,Ab]
  exact⟨_,_,_,rfl,rfl,z2,by simp,by simp[W9,Fi],(fun _ h=>by simp[W9,Fi]at h),fun _ h=>(by cases h),fun _=>⟨rfl,rfl,rfl,gl⟩⟩
 |true=>
 simp only[Bool.not_true,Aj]
 obtain⟨p1,p2,p3,p4⟩:=hp rfl
 dsimp only at p1 p2 p3 p4
 have noq: ∀ {x:A0} {os:List Au} {ns:List Am},(true=false\/true=false->Btb S x os ns):=fun h=>by rcases h with h|h<;>cases h
 by_cases h1:f.1=1
 .have e1:(f.1==(1:Int))=true:=by simp[h1]
  rw[Dj e1,Dj e1]
  obtain⟨X,os,ns,hi,hm,hsp⟩:=B0k _ n a f S.2.2.2.2.2.2.1 hS0 hN0 ha ht p1 h1
  obtain⟨r1,r2,r3,r4,r5,r6⟩:=run hm
  rw[hi,Ab]
  dsimp only
  rw[r1,Ab]
  exact⟨_,_,_,rfl,hsp,r2,r3,r4,r5,r6,noq⟩
 have e1:(f.1==(1:Int))=false:=by simpa using h1
 rw[Ce e1,Ce e1]
 by_cases h3:f.1=3
 .have e3:(f.1==(3:Int))=true:=by simp[h3]
  rw[Dj e3,Dj e3]
  obtain⟨X,os,ns,hi,hm,hsp⟩:=B10 _ n a f S.2.2.2.2.2.2.1 hS0 hN0
  obtain⟨r1,r2,r3,r4,r5,r6⟩:=run hm
  rw[hi,Ab]
  dsimp only
  rw[r1,Ab]
  exact⟨_,_,_,rfl,hsp,r2,r3,r4,r5,r6,noq⟩
 have e3:(f.1==(3:Int))=false:=by simpa using h3
 rw[Ce e3,Ce e3,Xs,Ab,Xt,Ab]
 dsimp only
 cases hse:inR f.1 4 8 with
 |true=>
  rw[Ay,Ay]
  obtain⟨X,os,ns,hi,hm,hsp⟩:=B0l _ n a f S.2.2.2.2.2.2.1 hS0 hN0 ha ht p1 hse p2 hw
  obtain⟨r1,r2,r3,r4,r5,r6⟩:=run hm
  rw[hi,Ab]
  dsimp only
  rw[r1,Ab]
  exact⟨_,_,_,rfl,hsp,r2,r3,r4,r5,r6,noq⟩
 |false=>
  rw[Aj,Aj,z1,Ab,hno,Ab]
  exact⟨_,_,_,rfl,rfl,z2,by simp,by simp[W9,Fi],(fun _ h=>by simp[W9,Fi]at h),fun _ h=>(by cases h),noq⟩
theorem Bwg {n:Am} (h:Kf n=true):Db n<=156:=by
 obtain⟨_,_,_,_,_,_,h1,h2,h3,h4,_⟩:=Kp.1 h
 simp only[Db]
 omega
theorem Byi {o:Au} (h:Bzj o):Dv o<=200:=by
 have:=Kq h.1
 simp only[A5]at this
 simp only[Dv]
 omega
theorem Aw3 {E:Type} {f:E->Nat} {k:Nat}: ∀ {l:List E},(∀x∈l,f x<=k)->Af f l<=k*l.length
 |[],_=>by simp[Af]
 |x::r,h=>by
  have h1:=h x zq3
  have h2:=Aw3 (f:=f) (k:=k) (l:=r) (fun y hy=>h y (List.mem_cons_of_mem _ hy))
  simp only[Af,List.length_cons,Nat.mul_add]
  omega
theorem Bef (s:A0) (n:YI) (a:A6) (b:YBs) (hw:Zi s) {e1 e2 e3 e4 e5 e6 e7 e8 e9 e10 e11 e12 e13 e14 e15 e16 e17:Nat}
  (w:Hh [.sl e1 [.sl e2 [.int .u8]],.sl e3 [.int .u8],.sl e4 [.int .u8],.int .i64,.int .i64,.sl e5 [.int .i64,.sl e6 [.int .u8],.sl e7 [.int .u8],.int .i64,.sl e8 [.int .u8],.int .i64,.sl e9 [.int .u8],.int .i64,.int .i64,.sl e10 [.int .i64],.int .i64,.sl e11 [.int .u8],.int .i64,.int .i64,.sl e12 [.int .i64],.bool,.int .i64,.sl e13 [.int .u8],.int .i64,.int .i64,.sl e14 [.int .i64,.int .i64,.sl e15 [.int .u8],.int .i64],.int .i64,.int .i64,.bool],.sl e16 [.int .i64,.int .i64,.int .i64,.int .i64]] s)
  (w1:Hh [.int .i64] n) (w2:Hh [.int .i64,.int .i64] a) (w3:Hh [.sl e17 [.int .u8]] b):Zf s n a b=some (true,()):=by
 have hwf: ∀x∈Br s,wfB (Cq x).2.1:=fun x hx=>by
  obtain⟨i,hi⟩:=List.mem_iff_getElem?.1 hx
  have k:=w.2.2.2.2.2.1
  simp only[wfD]at k
  have k2:=k.2 i x hi
  exact Bvu k2.2.2.2.2.1
 have hbw:wfB b.1:=Bvu w3.1
 clear w w1 w2 w3
 obtain⟨b,⟨⟩⟩:=b
 unfold Zf Ho
 simp only[Ae,Ad,Aa]
 by_cases h0:(b.length:Int)>1048576
 .rw[Ai h0,Ay]
 .rw[Bk h0,Aj,Bux s _ zq0 zq0 hw,Ab]
  by_cases h:szR (A7 s) 1048576<0
  .rw[Dj (by simpa using h)]
  .have hb:=B0n h
   obtain⟨r,os,ns,h1,h2,h3,h4,h5,h6,h7,_⟩:=B0m s n a (b,()) zq0 ⟨hbw,by dsimp only;omega⟩ zq2 hwf
   have o1:=Aw3 (f:=Dv) (k:=200) (l:=os) (fun x hx=>Byi (h6 x hx))
   have o2:=Aw3 (f:=Db) (k:=156) (l:=ns) (fun x hx=>Bwg (h7 x hx))
   have h6:=A15 s
   have h7:=A15 r
   have h8:=Aht (f:=G8) (g:=Db) But ns
   have h9:=Aht (f:=I7) (g:=Dv) Bxi os
   have h10:=D7 (f:=w_B) (fun _=>by simp[w_B]) b
   rw[Ce (by simpa using h)]
   simp (disch:=first|omega|(dsimp only;omega)) only[Buy,Iy,Ac1,Ab,h1,h2,Al9,Fw,Bpt,Bxj,Apc,He,Bgn,Br4,Apd,Bgo,Br5,Bool.not_true,Aj,Pj,B5]
end
end Go.Proofs.YthccfdmiejmbaaaGreat

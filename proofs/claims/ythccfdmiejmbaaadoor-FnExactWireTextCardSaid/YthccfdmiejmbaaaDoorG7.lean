/-
  That the program and the reference answer alike, in plain terms, and that the laws answer true.
-/
import Derived.Test.YthccfdmiejmbaaaDoorG6
namespace Go.Proofs.YthccfdmiejmbaaaDoor
open Go.RowKit
set_option linter.unusedVariables false
set_option linter.unusedSimpArgs false
set_option maxRecDepth 100000
set_option maxHeartbeats 8000000
noncomputable section
def nI (b:List YB) (i n:Nat):Int:=(Gr ((b.drop i).take n) 0 n).1.1
def rI (b:List YB) (i n:Nat):List YB:=(b.drop i).take n
def f0:A0:=((0:Int),(0:Int),([]:List YB),([]:List YB),(0:Int),([]:List YB),([]:List YB),(0:Int),(0:Int),([]:List YB),([]:List YB),())
def pI (b:List YB):A0:=
 bif nI b 0 1==1 then(nI b 0 1,nI b 1 1,rI b 2 12,[],0,[],[],0,0,[],[],())
 else bif nI b 0 1==2 then(nI b 0 1,0,rI b 1 12,rI b 13 12,nI b 25 4,rI b 29 16,[],0,0,[],[],())
 else bif nI b 0 1==3 then(nI b 0 1,nI b 1 1,rI b 2 12,rI b 14 12,nI b 26 4,rI b 30 16,rI b 46 16,0,0,[],[],())
 else bif inR (nI b 0 1) 4 8 then(nI b 0 1,0,[],rI b 1 12,0,[],[],nI b 13 4,nI b 17 6,rI b 39 41,rI b 23 16,())
 else(nI b 0 1,0,[],[],0,[],[],0,0,[],[],())
def gI (b:List YB):A0×(Bool×Unit):=bif A8 (pI b) && By (Bk (pI b)) b then(pI b,(true,()))else(f0,(false,()))
theorem Qq (b:YBs) (F:A0):(ob (Bj F) fun r=>br (!r.1) (some (f0,(false,()))) (ob (Bf F) fun r5=>ob (Ax r5 b) fun r6=>br (!r6.1) (some (f0,(false,()))) (some (F,(true,())))))=some (bif A8 F && By (Bk F) b.1 then(F,(true,()))else(f0,(false,()))):=by
 rw[Si,Ap]
 cases hf:A8 F with
 |false=>rfl
 |true=>
  have hn:=Xd hf
  rw[Xa F zq0,Ap,Ot,Ap]
  cases By (Bk F) b.1<;>rfl
theorem Xf (b:List YB) (h:b.length<=4294967296):Iz (b,())=some (gI b):=by
 unfold Iz It
 simp only[Ao,Aw,Ah,A5]
 have tn: ∀(i n:Nat),Ba (b.drop i,()) ((n:Int),())=some ((nI b i n,()),(b.drop (i+n),())):=fun i n=>by
  rw[Aaz _ _ zq0 zq2]
  simp only[Int.toNat_natCast,List.drop_drop]
  unfold nI Gr
  split<;>rfl
 have tk: ∀(i n:Nat),Am (b.drop i,()) ((n:Int),())=some ((rI b i n,()),(b.drop (i+n),())):=fun i n=>by
  rw[Wc _ _ zq0 zq2]
  simp only[Int.toNat_natCast,List.drop_drop]
  rfl
 rw[show Ba (b,()) ((1:Int),())=_ from tn 0 1]
 simp only[Ap]
 unfold gI pI
 cases k1:nI b 0 1==1 with
 |true=>
  simp only[Bu,cond_true]
  rw[show Ba (b.drop (0+1),()) ((1:Int),())=_ from tn 1 1,Ap,show Am (b.drop (1+1),()) ((12:Int),())=_ from tk 2 12,Ap]
  exact Qq (b,()) _
 |false=>
 simp only[Be,cond_false]
 cases k2:nI b 0 1==2 with
 |true=>
  have k3:(nI b 0 1==3)=false:=by simp only[beq_iff_eq]at k2;rw[k2];rfl
  simp only[Bu,Be,cond_true,k3]
  rw[show Am (b.drop (0+1),()) ((12:Int),())=_ from tk 1 12,Ap,show Am (b.drop (1+12),()) ((12:Int),())=_ from tk 13 12,Ap,show Ba (b.drop (13+12),()) ((4:Int),())=_ from tn 25 4,Ap,show Am (b.drop (25+4),()) ((16:Int),())=_ from tk 29 16,Ap]
  exact Qq (b,()) _
 |false=>
 simp only[Be,cond_false]
 cases k3:nI b 0 1==3 with
 |true=>
  simp only[Bu,cond_true]
  rw[show Ba (b.drop (0+1),()) ((1:Int),())=_ from tn 1 1,Ap,show Am (b.drop (1+1),()) ((12:Int),())=_ from tk 2 12,Ap,show Am (b.drop (2+12),()) ((12:Int),())=_ from tk 14 12,Ap,show Ba (b.drop (14+12),()) ((4:Int),())=_ from tn 26 4,Ap,show Am (b.drop (26+4),()) ((16:Int),())=_ from tk 30 16,Ap,show Am (b.drop (30+16),()) ((16:Int),())=_ from tk 46 16,Ap]
  exact Qq (b,()) _
 |false=>
 simp only[Be,cond_false]
 rw[T8,Ap]
 dsimp only
 cases k4:inR (nI b 0 1) 4 8 with
 |true=>
  simp only[Bu,cond_true]
  rw[show Am (b.drop (0+1),()) ((12:Int),())=_ from tk 1 12,Ap,show Ba (b.drop (1+12),()) ((4:Int),())=_ from tn 13 4,Ap,show Ba (b.drop (13+4),()) ((6:Int),())=_ from tn 17 6,Ap,show Am (b.drop (17+6),()) ((16:Int),())=_ from tk 23 16,Ap,show Am (b.drop (23+16),()) ((41:Int),())=_ from tk 39 41,Ap]
  exact Qq (b,()) _
 |false=>
  simp only[Be,cond_false]
  exact Qq (b,()) _
theorem Sl {a b:List YB} (h:By a b=true):a.length=b.length:=by
 have h1:Ch a=Ch b:=by simpa [By] using h
 unfold Ch at h1
 have h2:=congrArg (fun x=>x.data.size) h1
 simpa using h2
theorem Kc {b:List YB} {i n:Nat} (h1:1<=n/\n<=6) (h2:i+n<=b.length):(Gr b i n).1.1=Ei ((b.drop i).take n):=by
 unfold Gr
 rw[if_pos zq0]
 simp
theorem Qr {b:List YB} {i n:Nat} (h1:1<=n/\n<=6) (h2:i+n<=b.length):nI b i n=Ei ((b.drop i).take n):=by
 unfold nI
 rw[show((0:Int))=((0:Nat):Int)from rfl,Kc h1 zq2]
 simp[List.take_take]
theorem Aa0 {b:List YB} (hw:wfB b) {i:Nat} (h:i<b.length):nI b i 1=b[i].1/\IntKind.i64.wrap b[i].1=b[i].1:=by
 have hr:=hw i b[i] (List.getElem?_eq_getElem h)
 refine⟨?_,w64 zq0⟩
 rw[Qr zq0 zq0]
 have:(b.drop i).take 1=[(b[i].1,())]:=by
  rw[List.drop_eq_getElem_cons h];rfl
 rw[this]
 exact Xc hr
theorem Ad6 {i n:Nat}:nI [] i n=0:=by
 unfold nI Gr
 split
 .rename_i h;simp at h;omega
 .rfl
theorem Jg {b:List YB} {i j n:Nat} (h:j=i+n):(b.take j).drop i=rI b i n:=by
 unfold rI;rw[h,List.drop_take];congr 1;omega
theorem Wd {b:List YB} {i n:Nat} (h:b.length<=i+n):(b.take b.length).drop i=rI b i n:=by
 unfold rI
 rw[List.take_length,List.take_of_length_le zq2]
theorem Ov {f:A0} (h:A8 f=true):f.1=1\/f.1=2\/f.1=3\/inR f.1 4 8=true:=by
 unfold A8 at h
 cases hs:inR f.1 4 8 with
 |true=>exact .inr (.inr (.inr rfl))
 |false=>
  rw[hs]at h
  simp only[cond_false,Bool.and_eq_true,beq_iff_eq]at h
  obtain⟨h1,h2,h3,h4,h5,h⟩:=h
  cases k1:f.1==1 with
  |true=>exact .inl (by simpa using k1)
  |false=>
   rw[k1]at h
   cases k2:f.1==2 with
   |true=>exact .inr (.inl (by simpa using k2))
   |false=>
    rw[k2]at h
    simp only[cond_false,Bool.and_eq_true,beq_iff_eq]at h
    exact .inr (.inr (.inl h.1))
theorem Acj {f:A0} (h:A8 f=true):(Bk f).length=(if f.1=1 then 34 else if f.1=2 then 45 else if f.1=3 then 62 else 39+f.2.2.2.2.2.2.2.2.2.1.length):=by
 unfold Bk
 rw[h]
 simp only[Bool.not_true,cond_false]
 by_cases k1:f.1=1
 .obtain⟨_,c⟩:=Xe h k1
  rw[if_pos k1,show(f.1==1)=true by simp[k1]]
  simp[c]
 rw[if_neg k1,show(f.1==1)=false by simpa using k1]
 by_cases k2:f.1=2
 .obtain⟨c1,c2,_,c4,_⟩:=T9 h k2
  rw[if_pos k2,show(f.1==2)=true by simp[k2]]
  simp[c1,c2,c4,F0]
 rw[if_neg k2,show(f.1==2)=false by simpa using k2]
 by_cases k3:f.1=3
 .obtain⟨_,c1,c2,_,c4,c5⟩:=Zu h k3
  rw[if_pos k3,show(f.1==3)=true by simp[k3]]
  simp[c1,c2,c4,c5,F0]
 rw[if_neg k3,show(f.1==3)=false by simpa using k3]
 have k4:inR f.1 4 8=true:=by
  rcases Ov h with q|q|q|q
  .exact(k1 q).elim
  .exact(k2 q).elim
  .exact(k3 q).elim
  .exact q
 unfold A8 at h
 rw[k4]at h
 simp only[cond_true,Bool.and_eq_true,beq_iff_eq]at h
 obtain⟨_,_,c3,_,_,_,_,_,_,c10⟩:=h
 simp[F0]
 omega
theorem Xg {f:A0} {b:List YB} (hb:0<b.length) (h:By (Bk f) b=true):A8 f=true:=by
 cases hf:A8 f with
 |true=>rfl
 |false=>
  have:=Sl h
  unfold Bk at this
  rw[hf]at this
  simp at this
  omega
theorem Nx {b:List YB} (hb:0<b.length):(bif By (Bk (pI b)) b then(pI b,(true,()))else(f0,(false,())))=gI b:=by
 unfold gI
 cases hs:By (Bk (pI b)) b with
 |false=>rw[Bool.and_false]
 |true=>rw[Xg hb hs];rfl
theorem Ll {b:List YB} (h:A8 (pI b)=true->By (Bk (pI b)) b=true->False):gI b=(f0,(false,())):=by
 unfold gI
 cases h1:A8 (pI b)with
 |false=>rfl
 |true=>
  cases h2:By (Bk (pI b)) b with
  |false=>rfl
  |true=>exact(h h1 h2).elim
theorem Ny (b:List YB) (F:A0) (hn:Ce F<=536870912):(ob (C6 F) fun r3=>br (!(decide ((Ch r3.1)=(Ch b)))) (some (f0,(false,()))) (some (F,(true,()))))=some (bif By (Bk F) b then(F,(true,()))else(f0,(false,()))):=by
 rw[W9 F hn,Ap]
 show br (!(By (Bk F) b)) _ _=_
 cases By (Bk F) b<;>rfl
theorem Xh (b:List YB) (hw:wfB b) (hl:b.length<=4000000):Ix (b,())=some (gI b):=by
 unfold Ix Ip
 simp only[Ao,Aw,Ah,A5,List.nil_append,List.length_nil,Nat.zero_add]
 by_cases h0:b.length=0
 .have hb:b=[]:=List.eq_nil_of_length_eq_zero h0
  subst hb
  rw[Ll (fun h _=>?_)]
  .rfl
  .have e:pI []=f0:=by
    unfold pI
    rw[Ad6];rfl
   rw[e]at h
   exact absurd h (by decide)
 have hb0:0<b.length:=by omega
 obtain⟨n0,m0⟩:=Aa0 hw hb0
 have hx0:=List.getElem?_eq_getElem hb0
 rw[Tk (by simp only[beq_eq_false_iff_ne,ne_eq];omega),show idx b (0:Int)=_ from Gp hx0,Ap,m0,<-n0]
 have slen: ∀i j,((b.take j).drop i).length<=4294967296:=fun i j=>by simp;omega
 have pk: ∀ {f:A0},pI b=f->A8 f=true->By (Bk f) b=true->b.length=(if f.1=1 then 34 else if f.1=2 then 45 else if f.1=3 then 62 else 39+f.2.2.2.2.2.2.2.2.2.1.length):=fun _ h1 h2=>(Sl h2).symm.trans (Acj h1)
 cases k1:nI b 0 1==1 with
 |true=>
  have e:pI b=(nI b 0 1,nI b 1 1,rI b 2 12,[],0,[],[],0,0,[],[],()):=by unfold pI;rw[k1];rfl
  have k1':nI b 0 1=1:=by simpa using k1
  rw[Bu]
  by_cases hlen:b.length=34
  .have hb1:1<b.length:=by omega
   obtain⟨n1,m1⟩:=Aa0 hw hb1
   rw[Tk (by simp[hlen]),show idx b (1:Int)=_ from Gp (List.getElem?_eq_getElem hb1),Ap,Aj zq0,An,Aj (slen _ _),An,m1,<-n1,show(b.take ((14:Int)).toNat).drop ((2:Int)).toNat=rI b 2 12 from Jg rfl]
   refine(Ny b _ ?_).trans ?_
   .simp only[Ce,rI,List.length_nil,List.length_take,List.length_drop];omega
   .rw[<-e,Nx hb0]
  .rw[W6 zq2,Ll (fun h1 h2=>?_)]
   .rfl
   .have:=pk rfl h1 h2
    rw[e]at this
    rw[if_pos k1']at this
    omega
 |false=>
 rw[Be]
 cases k2:nI b 0 1==2 with
 |true=>
  have e:pI b=(nI b 0 1,0,rI b 1 12,rI b 13 12,nI b 25 4,rI b 29 16,[],0,0,[],[],()):=by unfold pI;rw[k1,k2];rfl
  have k2':nI b 0 1=2:=by simpa using k2
  rw[Bu]
  by_cases hlen:b.length=45
  .have hg:nI b 25 4=(Gr b 25 4).1.1:=(Qr zq0 zq0).trans (Kc (b:=b) (i:=25) (n:=4) zq0 zq0).symm
   have hl32:b.length<=4294967296:=by omega
   rw[Tk (by simp[hlen]),Aj zq0,An,Aj (slen _ _),An,Aj zq0,An,Aj (slen _ _),An,Qp b 25 4 hl32,Ap,Aj zq0,An,Aj zq0,An,Aj (slen _ _),An,<-hg,show(b.take ((13:Int)).toNat).drop ((1:Int)).toNat=rI b 1 12 from Jg rfl,show(b.take ((25:Int)).toNat).drop ((13:Int)).toNat=rI b 13 12 from Jg rfl,show(b.take ((b.length:Int)).toNat).drop ((29:Int)).toNat=rI b 29 16 from Wd zq0]
   refine(Ny b _ ?_).trans ?_
   .simp only[Ce,rI,List.length_nil,List.length_take,List.length_drop];omega
   .rw[<-e,Nx hb0]
  .rw[W6 zq2,Ll (fun h1 h2=>?_)]
   .rfl
   .have:=pk rfl h1 h2
    rw[e]at this
    rw[if_neg (by dsimp only;omega),if_pos k2']at this
    omega
 |false=>
 rw[Be]
 cases k3:nI b 0 1==3 with
 |true=>
  have e:pI b=(nI b 0 1,nI b 1 1,rI b 2 12,rI b 14 12,nI b 26 4,rI b 30 16,rI b 46 16,0,0,[],[],()):=by unfold pI;rw[k1,k2,k3];rfl
  have k3':nI b 0 1=3:=by simpa using k3
  rw[Bu]
  by_cases hlen:b.length=62
  .have hb1:1<b.length:=by omega
   obtain⟨n1,m1⟩:=Aa0 hw hb1
   have hg:nI b 26 4=(Gr b 26 4).1.1:=(Qr zq0 zq0).trans (Kc (b:=b) (i:=26) (n:=4) zq0 zq0).symm
   have hl32:b.length<=4294967296:=by omega
   rw[Tk (by simp[hlen]),show idx b (1:Int)=_ from Gp (List.getElem?_eq_getElem hb1),Ap,Aj zq0,An,Aj (slen _ _),An,Aj zq0,An,Aj (slen _ _),An,Qp b 26 4 hl32,Ap,Aj zq0,An,Aj (slen _ _),An,An,Aj zq0,An,Aj (slen _ _),An,<-hg,m1,<-n1,show(b.take ((14:Int)).toNat).drop ((2:Int)).toNat=rI b 2 12 from Jg rfl,show(b.take ((26:Int)).toNat).drop ((14:Int)).toNat=rI b 14 12 from Jg rfl,show(b.take ((46:Int)).toNat).drop ((30:Int)).toNat=rI b 30 16 from Jg rfl,show(b.take ((b.length:Int)).toNat).drop ((46:Int)).toNat=rI b 46 16 from Wd zq0]
   refine(Ny b _ ?_).trans ?_
   .simp only[Ce,rI,List.length_nil,List.length_take,List.length_drop];omega
   .rw[<-e,Nx hb0]
  .rw[W6 zq2,Ll (fun h1 h2=>?_)]
   .rfl
   .have:=pk rfl h1 h2
    rw[e]at this
    rw[if_neg (by dsimp only;omega),if_neg (by dsimp only;omega),if_pos k3']at this
    omega
 |false=>
 rw[Be]
 have k1':nI b 0 1≠1:=by simpa using k1
 have k2':nI b 0 1≠2:=by simpa using k2
 have k3':nI b 0 1≠3:=by simpa using k3
 have eno:inR (nI b 0 1) 4 8=false->pI b=(nI b 0 1,0,[],[],0,[],[],0,0,[],[],()):=fun k4=>by unfold pI;rw[k1,k2,k3,k4];rfl
 have eyes:inR (nI b 0 1) 4 8=true->pI b=(nI b 0 1,0,[],rI b 1 12,0,[],[],nI b 13 4,nI b 17 6,rI b 39 41,rI b 23 16,()):=fun k4=>by unfold pI;rw[k1,k2,k3,k4];rfl
 have bad: ∀ {f:A0},f.1=nI b 0 1->inR (nI b 0 1) 4 8=false->A8 f=true->False:=fun hf k4 h=>by
  rcases Ov h with q|q|q|q
  .exact k1' (hf.symm.trans q)
  .exact k2' (hf.symm.trans q)
  .exact k3' (hf.symm.trans q)
  .rw[hf,k4]at q;cases q
 by_cases hlen:b.length<39
 .rw[Aj zq0,Bu,Ll (fun h1 h2=>?_)]
  .rfl
  .have:=pk rfl h1 h2
   cases k4:inR (nI b 0 1) 4 8 with
   |false=>exact bad (by rw[eno k4]) k4 h1
   |true=>
    rw[eyes k4]at this
    rw[if_neg k1',if_neg k2',if_neg k3']at this
    omega
 .have hg1:nI b 13 4=(Gr b 13 4).1.1:=(Qr zq0 zq0).trans (Kc (b:=b) (i:=13) (n:=4) zq0 zq0).symm
  have hg2:nI b 17 6=(Gr b 17 6).1.1:=(Qr zq0 zq0).trans (Kc (b:=b) (i:=17) (n:=6) zq0 zq0).symm
  have hl32:b.length<=4294967296:=by omega
  rw[De zq0,Be,Aj zq0,An,Aj (slen _ _),An,Qp b 13 4 hl32,Ap,Qp b 17 6 hl32,Ap,Aj zq0,An,Aj (slen _ _),An,An,Aj zq0,An,Aj (slen _ _),An,<-hg1,<-hg2,show(b.take ((13:Int)).toNat).drop ((1:Int)).toNat=rI b 1 12 from Jg rfl,show(b.take ((39:Int)).toNat).drop ((23:Int)).toNat=rI b 23 16 from Jg rfl,show(b.take ((b.length:Int)).toNat).drop ((39:Int)).toNat=b.drop 39 by simp]
  refine(Ny b _ ?_).trans ?_
  .simp only[Ce,rI,List.length_nil,List.length_take,List.length_drop];omega
  .cases k4:inR (nI b 0 1) 4 8 with
   |false=>
    rw[Ll (fun h1 h2=>bad (by rw[eno k4]) k4 h1)]
    cases hs:By (Bk (nI b 0 1,(0:Int),([]:List YB),rI b 1 12,(0:Int),([]:List YB),([]:List YB),nI b 13 4,nI b 17 6,b.drop 39,rI b 23 16,())) b with
    |false=>rfl
    |true=>exact(bad rfl k4 (Xg hb0 hs)).elim
   |true=>
    by_cases h80:b.length<=80
    .have:b.drop 39=rI b 39 41:=by unfold rI;rw[List.take_of_length_le zq2]
     rw[this,<-eyes k4,Nx hb0]
    .have big: ∀ {f:A0},f.1=nI b 0 1->40<f.2.2.2.2.2.2.2.2.2.1.length->A8 f=true->False:=fun hf hlen h=>by
      obtain⟨_,_,_,c,_⟩:=Xb h (by rw[hf];exact k4)
      have:=Sj c
      omega
     rw[Ll (fun h1 h2=>big (by rw[eyes k4]) (by rw[eyes k4];simp[rI];omega) h1)]
     cases hs:By (Bk (nI b 0 1,(0:Int),([]:List YB),rI b 1 12,(0:Int),([]:List YB),([]:List YB),nI b 13 4,nI b 17 6,b.drop 39,rI b 23 16,())) b with
     |false=>rfl
     |true=>exact(big rfl zq2 (Xg hb0 hs)).elim
end
end Go.Proofs.YthccfdmiejmbaaaDoor

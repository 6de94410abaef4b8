/-
  That the program and the reference answer alike, in plain terms, and that the laws answer true.
-/
import Derived.Test.YtmhhajdeafijmaaL53
namespace Go.Proofs.Ytmhhajdeafijmaa
open Go.RowKit
set_option linter.unusedVariables false
set_option linter.unusedSimpArgs false
set_option maxRecDepth 100000
set_option maxHeartbeats 8000000
noncomputable section
theorem Aiy (x:Int):orx 0 x x=0:=by
 unfold orx
 rw[BitVec.xor_self]
 decide
theorem Ady (a:List YB) (h:a.length≤4294967296):T9 (a,()) (a,())=some (0,()):=by
 have e:=By (B:=Gu) a.length (fun i=>(a,a,(0:Int),(a.length:Int),(i:Int),())) ((0:Int),())
  (fun i hi=>by
   have hx:=List.getElem?_eq_getElem hi
   have ho:=Aiy a[i].1
   unfold orx at ho
   unfold Gu
   simp only[Ad,Af,Ac,Iq hi,Ay,B8 hx,Ae,ho]
   rw[w64 zq0]
   rfl)
  (by unfold Gu;simp only[Ad,Ac,Le,Am])
 unfold T9 T8
 simp only[Ad,Af,Ac,bne_self_eq_false,Am]
 rw[show Al Gu (a,a,(0:Int),(a.length:Int),(0:Int),())=_ from e,Ae]
theorem Xp (a:List YB) (h:a.length=16):M5 (a,()) (a,())=some (true,()):=by
 unfold M5 M4
 simp only[Ad,Af,Ac]
 rw[Ady a zq0,show((a.length:Int)==16)=true by simp[h],Ay,Ae]
 rfl
theorem Ahr {s p:Int} (h:0≤p∧p≤255):Lj s (Lj s p).1=(p,()):=by
 unfold Lj
 generalize hX:BitVec.ofInt (IntKind.u8.bits) s=X
 have hlt:(X ^^^ BitVec.ofInt (IntKind.u8.bits) p).toNat<256:=(X ^^^ BitVec.ofInt (IntKind.u8.bits) p).isLt
 dsimp only
 rw[w8 (n:=((X ^^^ BitVec.ofInt (IntKind.u8.bits) p).toNat:Nat)) zq0]
 have e:BitVec.ofInt (IntKind.u8.bits) (((X ^^^ BitVec.ofInt (IntKind.u8.bits) p).toNat:Nat):Int)=X ^^^ BitVec.ofInt (IntKind.u8.bits) p:=by
  rw[BitVec.ofInt_natCast]
  apply BitVec.eq_of_toNat_eq
  rw[BitVec.toNat_ofNat]
  exact Nat.mod_eq_of_lt hlt
 rw[e,←BitVec.xor_assoc,BitVec.xor_self,BitVec.zero_xor]
 obtain⟨n,rfl⟩:=Int.eq_ofNat_of_zero_le h.1
 have e2:(BitVec.ofInt (IntKind.u8.bits) (n:Int)).toNat=n:=by
  rw[BitVec.ofInt_natCast,BitVec.toNat_ofNat]
  exact Nat.mod_eq_of_lt (by show n<256;omega)
 rw[e2,w8 zq0]
theorem Aj7 {k n p:List YB} (h1:p.length≤200) (h2:n.length≤100) (h3:k.length≤1048576) (hw:wfB p):mix k n (mix k n p)=p:=by
 have hl:(mix k n p).length=p.length:=Xm h1 h2 h3
 have hs:=Pw k n p.length h1 h2 h3
 have e:mix k n p=Hm (B4 k n p.length) p p.length:=by unfold mix;rw[if_pos ⟨h1,h2,h3⟩]
 have g0: ∀q:List YB,q.length=p.length→mix k n q=Hm (B4 k n p.length) q p.length:=fun q hq=>by unfold mix;rw[hq,if_pos ⟨h1,h2,h3⟩]
 have e2:mix k n (mix k n p)=Hm (B4 k n p.length) (mix k n p) p.length:=g0 _ hl
 rw[e2,e]
 refine List.ext_getElem? fun i=>?_
 by_cases hi:i<p.length
 ·have hp:=List.getElem?_eq_getElem hi
  have hst:=List.getElem?_eq_getElem (show i<(B4 k n p.length).length by omega)
  have g: ∀q:List YB,(Hm (B4 k n p.length) q p.length)[i]? =some (Lj ((B4 k n p.length)[i]?.getD (0,())).1 (q[i]?.getD (0,())).1):=fun q=>by
   unfold Hm
   rw[List.getElem?_map,List.getElem?_range hi]
   rfl
  rw[g,g p,hp]
  simp only[Option.getD_some]
  rw[Ahr (hw i _ hp)]
 ·rw[List.getElem?_eq_none (by rw[Ll];omega),List.getElem?_eq_none zq0]
theorem Ab4 {r:Int} {sn:List YB} {ep seq kind:Int} {p t u:List YB} (ht:t.length=16) (hu:u.length=16):A4 r (kind,0,[],sn,0,[],[],ep,seq,p,t,())=A4 r (kind,0,[],sn,0,[],[],ep,seq,p,u,()):=by
 unfold A4
 cases hk:inR kind 4 8 with
 |false=>simp[hk]
 |true=>
  rw[Ab2 _ _ _ _ _ _ hk ht,Ab2 _ _ _ _ _ _ hk hu]
structure SealF (k:List YB) (r:Int) (sn:List YB) (ep seq kind:Int) (p:List YB):Prop where
 key:k.length=32
 sn12:sn.length=12
 role:inR r 0 1=true
 hd:C7 r sn ep seq=true
 kd:inR kind 4 8=true
 pl:p.length≤40
 ok:Ck (Av k r sn ep seq kind p).1=true
 eq:Av k r sn ep seq kind p=((kind,0,[],sn,0,[],[],ep,seq,mix k (A9 r sn ep seq) p,Fd k (A4 r (Av k r sn ep seq kind p).1),()),(true,()))
 tag:(Fd k (A4 r (Av k r sn ep seq kind p).1)).length=16
 mixl:(mix k (A9 r sn ep seq) p).length=p.length
theorem Kj {k:List YB} {r:Int} {sn:List YB} {ep seq kind:Int} {p:List YB} (h:Fk k r sn ep seq kind p=true):SealF k r sn ep seq kind p:=by
 have h':=h
 unfold Fk at h'
 simp only[Bool.and_eq_true]at h'
 obtain⟨a1,a2,a6,a7⟩:=h'
 have a2':=a2
 unfold C7 at a2'
 simp only[Bool.and_eq_true]at a2'
 obtain⟨b1,b2,b3,b4⟩:=a2'
 have hk:k.length=32:=by simp at a1;omega
 have hsn:sn.length=12:=by simp at b2;omega
 have hp:=Aen a7
 have hl:(A9 r sn ep seq).length≤23:=by rw[Gd];cases C7 r sn ep seq<;>simp
 have hm:(mix k (A9 r sn ep seq) p).length=p.length:=Xm zq0 zq0 zq0
 have t16: ∀t:List YB,t.length=16→(Fd k (A4 r (kind,0,[],sn,0,[],[],ep,seq,mix k (A9 r sn ep seq) p,t,()))).length=16:=fun t ht=>by
  refine Aeo zq0 (Nat.le_trans (Ni r _) ?_)
  simp only[Bo,List.length_nil,hsn,hm,ht];omega
 have z16:Dy.length=16:=by simp[Dy]
 have e:Av k r sn ep seq kind p=((kind,0,[],sn,0,[],[],ep,seq,mix k (A9 r sn ep seq) p,Fd k (A4 r (kind,0,[],sn,0,[],[],ep,seq,mix k (A9 r sn ep seq) p,Dy,())),()),(true,())):=by
  unfold Av;rw[h];rfl
 have e2:A4 r (Av k r sn ep seq kind p).1=A4 r (kind,0,[],sn,0,[],[],ep,seq,mix k (A9 r sn ep seq) p,Dy,()):=by
  rw[e];exact Ab4 (t16 _ z16) z16
 exact⟨hk,hsn,b1,a2,a6,by omega,Xn h,by rw[e2];exact e,by rw[e2];exact t16 _ z16,hm⟩
theorem V5 {k:List YB} {r:Int} {sn:List YB} {ep seq kind:Int} {p:List YB} (h:Fk k r sn ep seq kind p=true) (hw:wfB p):Pf (k,()) (r,()) (Av k r sn ep seq kind p).1=some ((p,()),(true,())):=by
 obtain⟨hk,hsn,hr,hd,hkd,hp,hok,heq,htag,hm⟩:=Kj h
 have hl:(A9 r sn ep seq).length≤23:=by rw[Gd];cases C7 r sn ep seq<;>simp
 have hne:=Jn k r sn ep seq kind p
 have hti:(((A4 r (Av k r sn ep seq kind p).1).length:Int)==0)=false:=by
  unfold A4
  rw[hr,hok,show inR (Av k r sn ep seq kind p).1.1 4 8=true by rw[heq];exact hkd]
  simp;omega
 unfold Pf Pe
 simp only[Ad,Af,Ac]
 rw[Px _ _ zq0,Ae]
 simp only[hti,show(((k.length:Int)) != 32)=false by simp[hk],Am]
 rw[Afx,Ae]
 have e10:(Av k r sn ep seq kind p).1.2.2.2.2.2.2.2.2.2.2.1=Fd k (A4 r (Av k r sn ep seq kind p).1):=by conv=>lhs;rw[heq]
 rw[e10,Xp _ htag,Ae]
 simp only[Bool.not_true,Am]
 have q4:(Av k r sn ep seq kind p).1.2.2.2.1=sn:=by rw[heq]
 have q8:(Av k r sn ep seq kind p).1.2.2.2.2.2.2.2.1=ep:=by rw[heq]
 have q9:(Av k r sn ep seq kind p).1.2.2.2.2.2.2.2.2.1=seq:=by rw[heq]
 have q10:(Av k r sn ep seq kind p).1.2.2.2.2.2.2.2.2.2.1=mix k (A9 r sn ep seq) p:=by rw[heq]
 rw[q4,q8,q9,q10,Um,Ae,Ajv,Ae,Aj7 zq0 zq0 zq0 hw]
theorem Hy (l:List YOp) (seen:List Dd) (known pre args:List YBs) (i:Nat) (x:YOp) (g:List YB) (hx:l[i]? =some x) (hll:l.length≤16) (h1:Ln x=true) (h2:K1 (x.1,())=some ((args.length:Int),()))
  (h3:Cs x (args,()) (seen,()) (known,())=some ((g,()),(true,()))) (hg:g.length≤200) (hp:pre.length≤7) (ha:args.length≤3):
  Al Bx (seen,known,pre++args,l,(l.length:Int),(i:Int),())=Al Bx (seen,known,pre++[(g,())],l,(l.length:Int),((i+1:Nat):Int),()):=by
 have hi:i<l.length:=(List.getElem?_eq_some_iff.1 hx).1
 have e0:IntKind.i64.wrap ((i:Int)+1)=((i+1:Nat):Int):=by rw[w64 zq0];rfl
 have e1:IntKind.i64.wrap (((pre++args).length:Int)-(args.length:Int))=(pre.length:Int):=by
  rw[List.length_append,w64 zq0];omega
 have e2:((pre++args).take (((pre++args).length:Int)).toNat).drop ((pre.length:Int)).toNat=args:=by
  simp only[Int.toNat_natCast,List.take_length,List.drop_left]
 have e3:((pre++args).take ((pre.length:Int)).toNat).drop ((0:Int)).toNat=pre:=by
  rw[Int.toNat_natCast,List.take_left];rfl
 have e4:IntKind.i64.wrap ((pre.length:Int)+1)=(pre.length:Int)+1:=w64 zq0
 rw[Bi]
 have hB:Bx (seen,known,pre++args,l,(l.length:Int),(i:Int),())=some (.inl (seen,known,pre++[(g,())],l,(l.length:Int),((i+1:Nat):Int),())):=by
  unfold Bx
  simp only[Ad,Af,Ac,Aj,Iq hi,Ay,B8 hx,Ae,h2,Ab3,h1,Bool.not_true,Am,e1,e2,e3,h3,e0,e4]
  have hlen:(pre++args).length=pre.length+args.length:=List.length_append
  rw[Aq (show ¬(pre.length:Int)<0 by omega),Am,Ah (show(0:Int)≤(pre.length:Int) by omega),Ah (show(pre.length:Int)≤((pre++args).length:Int) by omega),Aw,Aw,Ah (show((pre++args).length:Int)≤((pre++args).length:Int) by omega),Aw,
   Aq (show ¬(g.length:Int)>200 by omega),Am,Aq (show ¬(pre.length:Int)+1>8 by omega),Am,Aw,Aw]
  rw[Ah zq3,Aw,Ah zq3,Aw]
  rfl
 rw[hB]
theorem Aiz (l:List YOp) (seen:List Dd) (known:List YBs) (g:List YB) (hg:g.length≤200) (hll:l.length≤16) (h:Al Bx (seen,known,([]:List YBs),l,(l.length:Int),((0:Nat):Int),())=Al Bx (seen,known,[(g,())],l,(l.length:Int),(l.length:Int),())):Hj (l,()) (seen,()) (known,())=some ((g,()),(true,())):=by
 unfold Hj Pd
 simp only[Ad,Af,Ac,Aj,V2]
 rw[Aq (show ¬(l.length:Int)>16 by omega),Am,show Al Bx (seen,known,([]:List YBs),l,(l.length:Int),(0:Int),())=_ from h,Bi]
 have hend:Bx (seen,known,[(g,())],l,(l.length:Int),(l.length:Int),())=some (.inr (.inr ([(g,())],()))):=by
  unfold Bx
  simp only[Ad,Ac,Le,Am]
 rw[hend]
 simp only[Ae,Al1]
 rw[show(((([((g,()):YBs)].length:Int)) != (1:Int)))=false from rfl,Am,show idx [((g,()):YBs)] (0:Int)=some (g,())from rfl,Ae,I8 _ zq5,Ae]
def lit (b:List YB):YOp:=((1:Int),(0:Int),(0:Int),b,())
def opk (k n:Int):YOp:=(k,n,(0:Int),([]:List YB),())
theorem V6 {b:List YB} (h:b.length≤200):Ln (lit b)=true:=by
 unfold Ln lit
 simp only[Bool.and_eq_true,Ep,decide_eq_true_eq]
 omega
theorem Rw {k n:Int} (h:1≤k∧k≤10) (hn:0≤n∧n≤200):Ln (opk k n)=true:=by
 unfold Ln opk
 simp only[Bool.and_eq_true,Ep,decide_eq_true_eq,List.length_nil]
 omega
theorem Py (b:List YB) (a:(List YBs)×Unit) (s:(List Dd)×Unit) (kn:(List YBs)×Unit):Cs (lit b) a s kn=some ((b,()),(true,())):=rfl
theorem Af1 (n:Nat) (x:YBs) (a:(List YBs)×Unit) (s:(List Dd)×Unit) (kn:List YBs) (h:kn[n]? =some x):Cs (opk 3 n) a s (kn,())=some (x,(true,())):=by
 have hi:n<kn.length:=(List.getElem?_eq_some_iff.1 h).1
 unfold Cs Gt opk
 simp only[Ad,Af,Ac,Aj]
 simp only[show((3:Int)==1)=false from rfl,show((3:Int)==2)=false from rfl,show((3:Int)==3)=true from rfl,Am,Ay,Iq hi,B8 h,Ae]
theorem Ai0 (k m:List YB) (s:(List Dd)×Unit) (kn:(List YBs)×Unit):Cs (opk 8 0) ([(k,()),(m,())],()) s kn=some ((Fd k m,()),(true,())):=by
 unfold Cs Gt opk
 simp only[Ad,Af,Ac,Aj]
 simp only[show((8:Int)==1)=false from rfl,show((8:Int)==2)=false from rfl,show((8:Int)==3)=false from rfl,show((8:Int)==4)=false from rfl,show((8:Int)==5)=false from rfl,show((8:Int)==6)=false from rfl,show((8:Int)==7)=false from rfl,show((8:Int)==8)=true from rfl,Am,Ay,show idx [((k,()):YBs),(m,())] (0:Int)=some (k,())from rfl,show idx [((k,()):YBs),(m,())] (1:Int)=some (m,())from rfl,Ae,Afx]
theorem Zx (k m:List YB) (s:(List Dd)×Unit) (kn:(List YBs)×Unit) (h:k.length+m.length≤4294967296):Cs (opk 5 0) ([(k,()),(m,())],()) s kn=some ((k++m,()),(true,())):=by
 unfold Cs Gt opk
 simp only[Ad,Af,Ac,Aj]
 simp only[show((5:Int)==1)=false from rfl,show((5:Int)==2)=false from rfl,show((5:Int)==3)=false from rfl,show((5:Int)==4)=false from rfl,show((5:Int)==5)=true from rfl,Am,Ay,show idx [((k,()):YBs),(m,())] (0:Int)=some (k,())from rfl,show idx [((k,()):YBs),(m,())] (1:Int)=some (m,())from rfl,Ae]
 rw[Da _ (by simp[cat];omega) zq1,Ae]
 simp[cat]
theorem Af2 (k:List YB) (n:Nat) (r:Int) (sn:List YB) (ep seq kind:Int) (p:List YB) (h:Fk k r sn ep seq kind p=true) (hn:n≤11) (kn:List YBs) (hk:kn[n]? =some (k,())):
  Hj (Gw k n r sn ep seq kind p,()) (([]:List Dd),()) (kn,())=some ((Lg (Av k r sn ep seq kind p).1,()),(true,())):=by
 obtain⟨hkl,hsn,hr,hd,hkd,hp,hok,heq,htag,hm⟩:=Kj h
 have hti:(A4 r (Av k r sn ep seq kind p).1).length≤200:=by
  have:=Ni r (Av k r sn ep seq kind p).1
  have:=Jn k r sn ep seq kind p
  omega
 have hf:Gw k n r sn ep seq kind p=[lit ((IntKind.u8.wrap kind,())::(sn++(Bm ep 4 4++Bm seq 6 6))),opk 3 n,lit (A4 r (Av k r sn ep seq kind p).1),opk 8 0,opk 5 0,lit (mix k (A9 r sn ep seq) p),opk 5 0]:=by
  unfold Gw
  have e1:(Av k r sn ep seq kind p).2.1=true:=by rw[heq]
  have e2:(Av k r sn ep seq kind p).1.2.2.2.2.2.2.2.2.2.1=mix k (A9 r sn ep seq) p:=by rw[heq]
  rw[e1,e2,Ep.2 (show 0≤(n:Int)∧(n:Int)≤11 by omega)]
  rfl
 have hput:Lg (Av k r sn ep seq kind p).1=(((IntKind.u8.wrap kind,())::(sn++(Bm ep 4 4++Bm seq 6 6)))++Fd k (A4 r (Av k r sn ep seq kind p).1))++mix k (A9 r sn ep seq) p:=by
  have hk1:=Ep.1 hkd
  unfold Lg
  rw[hok]
  simp only[Bool.not_true,cond_false]
  have q1:(Av k r sn ep seq kind p).1.1=kind:=by rw[heq]
  have q4:(Av k r sn ep seq kind p).1.2.2.2.1=sn:=by rw[heq]
  have q8:(Av k r sn ep seq kind p).1.2.2.2.2.2.2.2.1=ep:=by rw[heq]
  have q9:(Av k r sn ep seq kind p).1.2.2.2.2.2.2.2.2.1=seq:=by rw[heq]
  have q10:(Av k r sn ep seq kind p).1.2.2.2.2.2.2.2.2.2.1=mix k (A9 r sn ep seq) p:=by rw[heq]
  have q11:(Av k r sn ep seq kind p).1.2.2.2.2.2.2.2.2.2.2.1=Fd k (A4 r (Av k r sn ep seq kind p).1):=by conv=>lhs;rw[heq]
  rw[q1,q4,q8,q9,q10,q11,show(kind==1)=false by simp;omega,show(kind==2)=false by simp;omega,show(kind==3)=false by simp;omega]
  simp only[cond_false,List.cons_append,List.append_assoc]
 generalize hH:(IntKind.u8.wrap kind,())::(sn++(Bm ep 4 4++Bm seq 6 6))=H at hf hput
 have hHl:H.length=23:=by rw[←hH];simp[Ei,hsn]
 generalize hT:Fd k (A4 r (Av k r sn ep seq kind p).1)=T at hput htag
 generalize A4 r (Av k r sn ep seq kind p).1=TI at hf hT hti
 generalize mix k (A9 r sn ep seq) p=M at hf hput hm
 rw[hf,hput]
 generalize hl:[lit H,opk 3 n,lit TI,opk 8 0,opk 5 0,lit M,opk 5 0]=l
 have hlen:l.length=7:=by rw[←hl];rfl
 have g: ∀i:Nat,l[i]? =[lit H,opk 3 n,lit TI,opk 8 0,opk 5 0,lit M,opk 5 0][i]? :=fun i=>by rw[hl]
 refine Aiz l [] kn _ zq3 zq0 ?_
 have s0:=Hy l [] kn [] [] 0 _ H (g 0) zq0 (V6 zq0) rfl (Py _ _ _ _) zq0 zq4 zq4
 have s1:=Hy l [] kn [(H,())] [] 1 _ k (g 1) zq0 (Rw zq4 zq0) rfl (Af1 n _ _ _ _ hk) zq0 zq1 zq1
 have s2:=Hy l [] kn [(H,()),(k,())] [] 2 _ TI (g 2) zq0 (V6 hti) rfl (Py _ _ _ _) hti zq1 zq1
 have s3:=Hy l [] kn [(H,())] [(k,()),(TI,())] 3 _ T (g 3) zq0 (Rw zq4 zq4) rfl (by rw[←hT];exact Ai0 _ _ _ _) zq0 zq1 zq1
 have s4:=Hy l [] kn [] [(H,()),(T,())] 4 _ (H++T) (g 4) zq0 (Rw zq4 zq4) rfl (Zx _ _ _ _ zq0) zq3 zq1 zq1
 have s5:=Hy l [] kn [(H++T,())] [] 5 _ M (g 5) zq0 (V6 zq0) rfl (Py _ _ _ _) zq0 zq1 zq1
 have s6:=Hy l [] kn [] [(H++T,()),(M,())] 6 _ (H++T++M) (g 6) zq0 (Rw zq4 zq4) rfl (Zx _ _ _ _ zq3) zq3 zq1 zq1
 simp only[List.nil_append,List.append_nil,List.cons_append,Nat.reduceAdd]at s0 s1 s2 s3 s4 s5 s6
 rw[s0,s1,s2,s3,s4,s5,s6,hlen]
theorem Ahs (k:List YB) (n:Nat) (r:Int) (sn:List YB) (ep seq kind:Int) (p:List YB) (h:Fk k r sn ep seq kind p=true) (hn:n≤11) (kn:List YBs) (hk:kn.length=n):
  Hj (Gw k n r sn ep seq kind p,()) (([]:List Dd),()) (kn,())=some ((([]:List YB),()),(false,())):=by
 obtain⟨hkl,hsn,hr,hd,hkd,hp,hok,heq,htag,hm⟩:=Kj h
 obtain⟨L,hL,hLl⟩: ∃L,Gw k n r sn ep seq kind p=lit ((IntKind.u8.wrap kind,())::(sn++(Bm ep 4 4++Bm seq 6 6)))::opk 3 n::L∧L.length=5:=by
  have e1:(Av k r sn ep seq kind p).2.1=true:=by rw[heq]
  refine⟨[lit (A4 r (Av k r sn ep seq kind p).1),opk 8 0,opk 5 0,lit (Av k r sn ep seq kind p).1.2.2.2.2.2.2.2.2.2.1,opk 5 0],?_,rfl⟩
  unfold Gw
  rw[e1,Ep.2 (show 0≤(n:Int)∧(n:Int)≤11 by omega)]
  rfl
 rw[hL]
 generalize hH:(IntKind.u8.wrap kind,())::(sn++(Bm ep 4 4++Bm seq 6 6))=H
 have hHl:H.length=23:=by rw[←hH];simp[Ei,hsn]
 generalize hl:lit H::opk 3 n::L=l
 have hlen:l.length=7:=by rw[←hl];simp[hLl]
 have g0:l[0]? =some (lit H):=by rw[←hl];rfl
 have g1:l[1]? =some (opk 3 n):=by rw[←hl];rfl
 have s0:=Hy l [] kn [] [] 0 _ H g0 zq0 (V6 zq0) rfl (Py _ _ _ _) zq0 zq4 zq4
 simp only[List.nil_append,List.append_nil,Nat.reduceAdd]at s0
 have hB:Bx (([]:List Dd),kn,[(H,())],l,(l.length:Int),((1:Nat):Int),())=some (.inr (.inl (([]:List YB),false,()))):=by
  have hpush: ∀a,Cs (opk 3 n) a (([]:List Dd),()) (kn,())=some ((([]:List YB),()),(false,())):=fun a=>by
   unfold Cs Gt opk
   simp only[Ad,Af,Ac,Aj]
   simp only[show((3:Int)==1)=false from rfl,show((3:Int)==2)=false from rfl,show((3:Int)==3)=true from rfl,Am,Ay,Aq (show ¬((n:Int)<(kn.length:Int)) by omega)]
  unfold Bx
  simp only[Ad,Af,Ac,Aj,Iq (show 1<l.length by omega),Ay,B8 g1,Ae,Ab3,Rw (show(1:Int)≤3∧(3:Int)≤10 by decide) (show 0≤(n:Int)∧(n:Int)≤200 by omega),show K1 ((opk 3 n).1,())=some ((0:Int),())from rfl,hpush]
  rfl
 unfold Hj Pd
 simp only[Ad,Af,Ac,Aj,V2]
 rw[Aq (show ¬(l.length:Int)>16 by omega),Am,show Al Bx (([]:List Dd),kn,([]:List YBs),l,(l.length:Int),(0:Int),())=_ from s0,Bi,hB]
 rfl
theorem Adz {b:List YB} {a0:Bf} (hc:Ge b a0):Tot (fun r=>(r.2.1.1.length≤40∧wfB r.2.1.1)∧Ge b r.2.2) (Om a0):=by
 unfold Om Ol
 simp only[Ad,Af,Ac,Aj]
 refine Bl (Jo _ hc zq4) (fun r1 ⟨_,h1c⟩=>?_)
 refine Lm (fun _=>?_) (fun _=>?_)
 ·refine Bl (Jo _ (Bq hc h1c) zq4) (fun r2 ⟨_,h2c⟩=>?_)
  exact Bl (G8 _ (Bq hc h2c) zq4) (fun r3 ⟨⟨h3,h4⟩,h3c⟩=>B5 ⟨⟨by dsimp only at*;omega,h4⟩,Bq hc h3c⟩)
 refine Lm (fun _=>?_) (fun _=>?_)
 ·refine Bl (Jo _ (Bq hc h1c) zq4) (fun r2 ⟨_,h2c⟩=>?_)
  exact Bl (G8 _ (Bq hc h2c) zq4) (fun r3 ⟨⟨h3,h4⟩,h3c⟩=>B5 ⟨⟨by dsimp only at*;omega,h4⟩,Bq hc h3c⟩)
 ·refine Bl (Gf _ 0 40 (Bq hc h1c) zq4 zq4) (fun r2 ⟨h2,h2c⟩=>?_)
  exact Bl (G8 _ (Bq hc h2c) zq0) (fun r3 ⟨⟨h3,h4⟩,h3c⟩=>B5 ⟨⟨by dsimp only at*;omega,h4⟩,Bq hc h3c⟩)
theorem Aaw (a0:YBs) (hl:a0.1.length≤1048576):Tot (fun r=>r.2.2.2.1.1.length≤12∧r.2.2.2.2.2.2.2.1.length≤40∧wfB r.2.2.2.2.2.2.2.1) (J2 a0):=by
 unfold J2 J1
 simp only[Ad,Af,Ac,Aj]
 refine Bl (Ahq _ hl) (fun r1 h1c=>?_)
 refine Bl (Gf _ 31 32 h1c zq4 zq4) (fun r2 ⟨h2,h2c⟩=>?_)
 refine Bl (G8 _ (Bq h1c h2c) zq0) (fun r3 ⟨⟨h3,_⟩,h3c⟩=>?_)
 refine Bl (Adz (Bq h1c h3c)) (fun r4 ⟨⟨h4,h4w⟩,h4c⟩=>?_)
 have c4:Ge a0.1 (r1.1,r4.2.2.2.1,r4.2.2.2.2.1,()):=by have:=Bq h1c h4c;exact this
 refine Bl (Gf _ (-1) 12 c4 zq4 zq4) (fun r5 ⟨h5,h5c⟩=>?_)
 refine Bl (Gf _ 0 2 (Bq h1c h5c) zq4 zq4) (fun r6 ⟨h6,h6c⟩=>?_)
 refine Bl (Gf _ 11 12 (Bq h1c h6c) zq4 zq4) (fun r7 ⟨h7,h7c⟩=>?_)
 refine Bl (G8 _ (Bq h1c h7c) zq0) (fun r8 ⟨⟨h8,_⟩,h8c⟩=>?_)
 refine Bl (Gf _ 0 4294967295 (Bq h1c h8c) zq4 zq4) (fun r9 ⟨_,h9c⟩=>?_)
 refine Bl (Gf _ 0 281474976710655 (Bq h1c h9c) zq4 zq4) (fun r10 ⟨_,h10c⟩=>?_)
 exact B5 ⟨by dsimp only;omega,h4,h4w⟩
theorem Af3 (a:YBs):Rc a=some (true,()):=by
 unfold Rc Fz
 simp only[Af,Ad,Ac,Aj]
 rw[show Ad9 a=some (decide ((a.1.length:Int)>(1048576:Int)),())from rfl,Ae]
 by_cases hb:(a.1.length:Int)>1048576
 ·rw[Ah hb,Ay]
 rw[Aq hb,Am]
 obtain⟨⟨⟨k,⟨⟩⟩,⟨n,⟨⟩⟩,⟨r,⟨⟩⟩,⟨sn,⟨⟩⟩,⟨ep,⟨⟩⟩,⟨seq,⟨⟩⟩,⟨kind,⟨⟩⟩,p,⟨⟩⟩,e,h1,h2,h3⟩:=Aaw a zq0
 dsimp only at h1 h2 h3
 rw[e,Ae]
 dsimp only
 have hne:=Jn k r sn ep seq kind p
 rw[Aj4 k n r sn ep seq kind p zq0 zq0,Ahp k r sn ep seq kind p zq0 zq0,Ak1 k r sn ep seq kind p zq0 zq0]
 simp only[Ae,beq_self_eq_true,Bool.not_true,Am]
 cases hs:Fk k r sn ep seq kind p with
 |false=>
  have e1:(Av k r sn ep seq kind p).2.1=false:=by unfold Av;rw[hs];rfl
  have e2:Gw k n r sn ep seq kind p=[]:=by unfold Gw;rw[e1];rfl
  rw[e1,e2];rfl
 |true=>
 have hF:=Kj hs
 have e1:(Av k r sn ep seq kind p).2.1=true:=by rw[hF.eq]
 have out:inR n 0 11=false→Gw k n r sn ep seq kind p=[]:=fun h=>by unfold Gw;rw[h,Bool.and_false];rfl
 rw[e1]
 simp only[Bool.not_true,Am]
 by_cases q1:n<0
 ·rw[Ah q1,Ay,out (by cases h:inR n 0 11 with|false=>rfl|true=>have:=Ep.1 h;omega)];rfl
 rw[Aq q1,Am]
 by_cases q2:n≥12
 ·rw[Ah q2,Ay,out (by cases h:inR n 0 11 with|false=>rfl|true=>have:=Ep.1 h;omega)];rfl
 rw[Aq q2,Am]
 obtain⟨m,rfl⟩:=Int.eq_ofNat_of_zero_le (show 0≤n by omega)
 generalize hf:Av k r sn ep seq kind p=S at*
 obtain⟨⟨f1,f2,f3,f4,f5,f6,f7,f8,f9,f10,f11,⟨⟩⟩,ok,⟨⟩⟩:=S
 generalize hfo:Gw k m r sn ep seq kind p=fo
 have hloop:=By (B:=Dg) (m+1) (fun i=>(k,(m:Int),r,p,fo,List.replicate i ((k,()):YBs),(i:Int),f1,f2,f3,f4,f5,f6,f7,f8,f9,f10,f11,())) (k,(m:Int),r,p,fo,List.replicate (m+1) ((k,()):YBs),f1,f2,f3,f4,f5,f6,f7,f8,f9,f10,f11,())
  (fun i hi=>by
   unfold Dg
   simp only[Ad,Ac,Aj]
   rw[Ah zq0,Ay,Ah zq3,Aw,←List.replicate_succ',w64 zq0]
   rfl)
  (by
   unfold Dg
   simp only[Ad,Ac,Aj]
   rw[Aq zq0,Am])
 rw[show Al Dg (k,(m:Int),r,p,fo,([]:List YBs),(0:Int),f1,f2,f3,f4,f5,f6,f7,f8,f9,f10,f11,())=_ from hloop,Ae]
 dsimp only
 have c1:=Af2 k m r sn ep seq kind p hs zq0 (List.replicate (m+1) ((k,()):YBs)) (by rw[List.getElem?_replicate,if_pos zq0])
 have c2:=Ahs k m r sn ep seq kind p hs zq0 (List.replicate m ((k,()):YBs)) zq1
 have c3:=V5 hs h3
 rw[hfo,hf]at c1
 rw[hfo]at c2
 rw[hf]at c3
 have e5:((List.replicate (m+1) ((k,()):YBs)).take ((m:Int)).toNat).drop ((0:Int)).toNat=List.replicate m ((k,()):YBs):=by
  rw[Int.toNat_natCast,List.take_replicate,show min m (m+1)=m by omega];rfl
 rw[c1,Ae,Ah zq0,Aw,Ah zq3,Aw,e5,c2,Ae,c3,Ae]
 simp only[Ay,Bool.not_false]
 have hpf:Bo ((f1,f2,f3,f4,f5,f6,f7,f8,f9,f10,f11,()):Bc)≤536870912:=by
  have:Bo ((f1,f2,f3,f4,f5,f6,f7,f8,f9,f10,f11,()):Bc)≤sn.length+p.length+32:=hne
  omega
 rw[Afn _ hpf]
 simp only[Ae,Adx,Ay]
end
end Go.Proofs.Ytmhhajdeafijmaa

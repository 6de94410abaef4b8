/-
  That the program and the reference answer alike, in plain terms, and that the laws answer true.
-/
import Derived.Test.YtfljmgnghlpapaaGreatL83
namespace Go.Proofs.YtfljmgnghlpapaaGreat
open Go.RowKit
set_option linter.unusedVariables false
set_option linter.unusedSimpArgs false
set_option maxRecDepth 100000
set_option maxHeartbeats 4000000
noncomputable section
def twB:List YB:=([]:List YB)++Eg (Bq [116,119,101,108,118,101,32,98,121,116,101,115])
theorem R1:twB.length=12:=by decide
def Me (a:Bi):List YB:=cat [(([((99:Int),())]++Eu a.1 4 4)++Eu a.2.1 2 2,()),([((1:Int),())],()),(twB,()),(twB,()),(([]:List YB)++Eu 5 4 4,())]
theorem Qx (a:Bi):(Me a).length=36:=by
 unfold Me cat
 simp[cat,E7,R1]
theorem Bfw (b:List YB) (n:Int) (hl:b.length≤1073741824):Fj (b,()) (n,()) ((2:Int),())=some (b++Eu n 2 2,()):=A17 b n 2 zq0 zq0 hl
theorem Bfx (b:List YB) (n:Int) (hl:b.length≤1073741824):F4 (b,()) (n,()) ((2:Int),())=some (b++Eu n 2 2,()):=A16 b n 2 zq0 zq0 hl
theorem Bgz:IntKind.u8.wrap (1:Int)=1:=by decide
theorem A9a (a:Bi) (ha:D3 a=true):Xy a ((1:Int),()) (twB,()) (twB,()) ((5:Int),())=some (Me a,()):=by
 unfold Xy W5 Apo Ack
 simp only[Ac,Ae,Ab,Al,Ow,Bw,L8,Ai,ha,R1,Bool.not_true,Au]
 rw[show inR (1:Int) 1 9=true by decide,show inR (5:Int) 0 1000000=true by decide,show((((12:Nat):Int))==(12:Int))=true by decide]
 simp only[Bool.not_true,Au]
 rw[Anz _ _ zq3]
 simp only[Ai]
 rw[Bfw _ _ (by simp[E7])]
 simp only[Ai]
 rw[Anz _ _ zq3]
 simp only[Ai,Bgz]
 rw[Rx _ (by have:=Qx a;unfold Me at this;omega) zq3]
 rfl
theorem A9b (a:Bi) (ha:D3 a=true):Xz a ((1:Int),()) (twB,()) (twB,()) ((5:Int),())=some (Me a,()):=by
 unfold Xz W7 Apq Aco
 simp only[Ac,Ae,Ab,Al,Ox,Df,Ai,ha,R1,Bool.not_true,Au]
 rw[show inR (1:Int) 1 9=true by decide,show inR (5:Int) 0 1000000=true by decide,show((((12:Nat):Int)) != (12:Int))=false by decide]
 simp only[Bool.not_true,Au]
 rw[Rw _ _ zq3]
 simp only[Ai]
 rw[Bfx _ _ (by simp[E7])]
 simp only[Ai,Bgz]
 rw[An (by simp[E7]),A8,An (by simp[E7,R1]),A8,An (by simp[E7,R1]),A8,Rw _ _ (by simp[E7,R1])]
 simp only[Ai]
 unfold Me
 simp[cat]
def Td (j:List YB) (a:Bi):List YB:=Ade j (Me a)
theorem Bbu (j:List YB) (a:Bi) (hj:j.length=32):(Td j a).length=16:=by
 have h:=Rz j (Me a) zq0 (by rw[Qx];omega)
 unfold Td Ade
 rw[List.length_take];omega
theorem A6r (j:List YB) (a:Bi):wfB (Td j a):=Bds _ _
theorem Bbv (j:List YB) (a:Bi) (hj:j.length=32) (ha:D3 a=true):Ahr (j,()) a ((1:Int),()) (twB,()) (twB,()) ((5:Int),())=some (Td j a,()):=by
 unfold Ahr Aqy
 simp only[Ac,Ae,Ab,Al]
 rw[A9a a ha,Ai,Av9,Ai]
 simp only[hj,Qx]
 rw[show((((32:Nat):Int))==(32:Int))=true by decide,show((((36:Nat):Int))==(0:Int))=false by decide]
 simp only[Bool.not_true,Au]
 rw[Bhs,Ai];rfl
theorem Bbw (j:List YB) (a:Bi) (hj:j.length=32) (ha:D3 a=true):Aht (j,()) a ((1:Int),()) (twB,()) (twB,()) ((5:Int),())=some (Td j a,()):=by
 unfold Aht Aq0
 simp only[Ac,Ae,Ab,Al]
 rw[A9b a ha,Ai,A6o,Ai]
 simp only[hj,Qx]
 rw[show((((32:Nat):Int))==(32:Int))=true by decide,show((((36:Nat):Int))==(0:Int))=false by decide]
 simp only[Bool.not_true,Au]
 rw[Be0,Ai];rfl
theorem A6s (j m:List YB) (a:Bi) (hj:j.length=32) (ha:D3 a=true) (hm:m.length=16) (hw:wfB m):
  ∃k,Aal (j,()) ((6:Int),()) a ((3:Int),(1:Int),twB,twB,(5:Int),m,m,(0:Int),(0:Int),([]:List YB),([]:List YB),())=some (k,())∧((k=0∧m=Td j a)∨(k=2∧m≠Td j a)):=by
 have hf:V0 ((3:Int),(1:Int),twB,twB,(5:Int),m,m,(0:Int),(0:Int),([]:List YB),([]:List YB),())=true:=by
  unfold V0
  simp only[R1,hm]
  decide
 unfold Aal Alx Ax2 Alw
 simp only[Ac,Ae,Ab,Al]
 rw[Av9,Ai]
 simp only[hj]
 rw[show((((32:Nat):Int))==(32:Int))=true by decide,Bw,Ai,show inR (6:Int) 0 1000000=true by decide,Ow,Ai,ha,Baz,Ai,hf]
 simp only[Bool.not_true,Au,bne_self_eq_false,Bw,Ai]
 rw[show inR (5:Int) 0 1000000=true by decide,show inR (IntKind.i64.wrap ((6:Int)-5)) 0 10=true by decide]
 simp only[A4,Ai,Bool.not_true,Au]
 rw[Bbv j a hj ha,Ai]
 unfold App Acn
 simp only[Ac,Ae,Ab]
 obtain⟨r,r1,_,r3⟩:=Bfm m (Td j a) zq0
 rw[r1,hm,show((((16:Nat):Int))==(16:Int))=true by decide,A4,Ai,Ai]
 have r4:=r3 hw (A6r j a)
 by_cases hr:r=0
 ·refine⟨0,?_,.inl ⟨rfl,r4.1 hr⟩⟩
  rw[hr];rfl
 ·refine⟨2,?_,.inr ⟨rfl,fun e=>hr (r4.2 e)⟩⟩
  have:(r==(0:Int))=false:=by simpa using hr
  rw[this];rfl
theorem Bg0 (n:YI):Tot (fun r=>D3 r=true) (Ara n):=by
 unfold Ara Aqw
 simp only[Ac,Ae,Ab,Al]
 rw[Bw,Ai]
 dsimp only
 cases h:inR n.1 0 255 with
 |false=>exact Ah rfl
 |true=>
  have:=Cu.1 h
  refine Ah ?_
  unfold D3
  rw[w64 (n:=167772160+n.1) zq0,w64 (n:=7000+n.1) zq0]
  simp only[Bool.and_eq_true,Cu]
  omega
theorem Bh5 (a:YBs) (h:a.1.length≤1048576):Tot (fun _=>True) (A1x a ((2:Int),())):=by
 unfold A1x A1f
 simp only[Ac,Ae,Ab,Al]
 refine Ar (fun hg=>?_) (fun hg=>?_)
 ·simp only[decide_eq_true_eq]at hg
  exact Aj (D8 (P:=fun _=>True) zq4 hg (fun _ _=>trivial)) (fun _ _=>Ah trivial)
 ·simp only[decide_eq_false_iff_not]at hg
  refine Dh ?_ (Ah trivial)
  rw[w64 (n:=(a.1.length:Int)*7) zq0,show IntKind.i64.wrap ((2:Int)*31)=62 by decide,w64 zq0]
  exact An zq0
theorem Bd3 (n:YI) (h:1≤n.1∧n.1≤6):Qk n=some (n.1,([]:List Ad),()):=by
 unfold Qk Vf
 simp only[Ae,Ac,Ab,Bw,Ai]
 rw[Cu.2 h];rfl
theorem Bbx {s:List YB} {n:Int} (h:Hx (s,n,())=true):(Mc s n).length=12:=by
 unfold Hx at h
 simp only[Bool.and_eq_true]at h
 have h1:=Cu.1 h.1
 unfold Mc
 rw[if_pos ⟨h.1,h.2⟩,List.length_take,Rz _ _ zq0 (by simp[Aan,E7])]
 decide
theorem Bby {r:List YB} (h:r.length=12):(N5 r).length=32:=by
 unfold N5
 rw[if_pos h]
 unfold Jl J6
 rw[if_pos ⟨by decide,by omega⟩]
 exact Rz _ _ zq0 zq4
def Bhy (s r:Az) (ns:List A6):Prop:=
 (r=s∧ns=[]∧(Ck s=false∨s.2.2.2.1=10000))∨
 (Ck s=true∧Ck r=true∧ns.length=2∧r.2.2.2.2.2.1=[]∧r.2.2.2.2.2.2.1=[]∧r.2.2.2.1=s.2.2.2.1+1∧s.2.2.2.1≤10000∧0≤s.2.2.2.1∧s.2.1.length=32∧r.2.1.length=32)
theorem Bg1 (s:Az) (h:A3 s≤1073741824):Tot (fun r=>Bhy s r.1 r.2.1) (Xu s):=by
 have h':=h
 simp only[A3]at h'
 unfold Xu Agv Xt P4
 simp only[Ac,Ae,Ab,Al]
 rw[Hy s zq0,Ai,E4 s zq0,Ai]
 refine Ar (fun h1=>Ah (.inl ⟨rfl,rfl,.inl (by simpa using h1)⟩)) (fun h1=>?_)
 have ho:Ck s=true:=by simpa using h1
 obtain⟨a1,a2,a3,a4,a5,a6,a7⟩:=M8.1 ho
 refine Ar (fun h2=>Ah (.inl ⟨rfl,rfl,.inr (by simpa using h2)⟩)) (fun h2=>?_)
 have hne:s.2.2.2.1≠10000:=by simpa using h2
 have hroll:Ge (s.2.2.1,s.2.2.2.1,())=((s.2.2.1,s.2.2.2.1+1,()),Mc s.2.2.1 s.2.2.2.1):=by
  unfold Ge;rw[if_pos ⟨a3,hne⟩]
 have h12:=Bbx a3
 have hj:=Bby h12
 have hd:=a3
 unfold Hx at hd
 simp only[Bool.and_eq_true,Cu]at hd
 obtain⟨c1,_⟩:=(Pb zq0).1 a4
 rw[Ba9 _ zq2,Ai,hroll]
 dsimp only
 rw[A2q,Ai,Bd3 _ c1,Ai,Dv _ zq2,Ai,Dv _ zq2,Ai]
 refine Ah (.inr ⟨ho,M8.2 ⟨a1,?_,?_,?_,?_,a6,?_⟩,rfl,rfl,rfl,rfl,hd.2.2,hd.2.1,by have:=a2;simp at this;omega,hj⟩)
 ·show(((N5 (Mc s.2.2.1 s.2.2.2.1)).length:Int)==32)=true
  rw[hj];rfl
 ·unfold Hx
  simp only[Bool.and_eq_true,Cu]
  omega
 ·exact(Pb (c:=s.2.2.2.2.1) (l:=[]) zq3).2 ⟨c1,by simp,by show((Ct []:Nat):Int)≤s.2.2.2.2.1;simp[Ct];omega,(fun x hx=>by cases hx),.nil⟩
 ·show Iv []=true
  decide
 ·show ∀x∈([]:List Ad),x.1≤(s.1.length:Int)
  intro x hx
  cases hx
theorem A26 (a0:YBs) (hl:a0.1.length≤1048576):Tot (fun r=>SvP r) (Xm a0):=by
 unfold Xm Wn
 simp only[Ac,Ae,Ab,Al]
 refine Aj (Am0 a0 hl) (fun r1 hc=>?_)
 exact Aj (Aid hc) (fun r2 ⟨h2,_⟩=>Ah h2)
theorem Bbz (a:YBs):Apr a=some (true,()):=by
 unfold Apr Nt
 simp only[Ae,Ac,Ab,Al]
 rw[show Ant a=some (decide ((a.1.length:Int)>(1048576:Int)),())from rfl,Ai]
 by_cases hb:(a.1.length:Int)>1048576
 ·rw[An hb,A4]
 rw[Bj hb,Au]
 obtain⟨s,e1,h1⟩:=A26 a zq0
 have n1:=h1.need
 rw[e1,Ai]
 obtain⟨r,ns,c1,c2,c3,c4⟩:=Bfh s zq0
 obtain⟨q1,d1,d2⟩:=Bg1 s zq0
 rw[c1]at d1
 cases d1
 dsimp only at d2
 rw[c1,c2]
 simp only[Ai]
 rw[K6 r zq0,Ai,Ael ns zq0,Ai]
 simp only[Bool.not_true,Au]
 rcases d2 with⟨rfl,rfl,hw⟩|⟨g1,g2,g3,g4,g5,g6,g7,g8,g9,g10⟩
 ·rw[show((([]:List A6).length:Int)==(0:Int))=true from rfl,A4,K6 r zq0,Ai,A4,E4 r zq0,Ai]
  rcases hw with hw|hw
  ·rw[hw];rfl
  ·rw[hw]
   cases Ck r<;>rfl
 ·have hne:((ns.length:Int)==(0:Int))=false:=by rw[g3];rfl
  obtain⟨r9,f1,_⟩:=Bh5 a zq0
  obtain⟨ad,f2,had⟩:=Bg0 r9
  rw[hne,Au,f1,Ai,f2,Ai,An zq4,A8,show Nat.blt 0 (Bq [116,119,101,108,118,101,32,98,121,116,101,115]).size=true by decide,A8]
  rw[show([]:List YB)++Eg (Bq [116,119,101,108,118,101,32,98,121,116,101,115])=twB from rfl]
  have hm:=Bbu s.2.1 ad g9
  have hmw:=A6r s.2.1 ad
  obtain⟨k1,j1,j2⟩:=A6s r.2.1 (Td s.2.1 ad) ad g10 had hm hmw
  obtain⟨k2,l1,l2⟩:=A6s s.2.1 (Td s.2.1 ad) ad g9 had hm hmw
  have hk2:k2=0:=by
   rcases l2 with l2|l2
   ·exact l2.1
   ·exact(l2.2 rfl).elim
  subst hk2
  rw[Bbv s.2.1 ad g9 had]
  simp only[Ai]
  rw[j1,l1,E4 r zq0,Bbw s.2.1 ad g9 had,Bbw r.2.1 ad g10 had]
  simp only[Ai,g2,A4,g4,g5,g6]
  rw[show((([]:List Ad).length:Int)==(0:Int))=true from rfl,show((([]:List Ak).length:Int)==(0:Int))=true from rfl,w64 zq0]
  simp only[A4,beq_self_eq_true]
  rcases j2 with⟨rfl,j2⟩|⟨rfl,j2⟩
  ·rw[show((0:Int)==(2:Int))=false by decide,Au,←j2,Jw,Ai]
  ·rw[show((2:Int)==(2:Int))=true by decide,A4]
end
end Go.Proofs.YtfljmgnghlpapaaGreat

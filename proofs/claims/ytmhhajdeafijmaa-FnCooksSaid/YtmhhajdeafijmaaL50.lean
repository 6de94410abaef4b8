/-
  That the program and the reference answer alike, in plain terms, and that the laws answer true.
-/
import Derived.Test.YtmhhajdeafijmaaL41
namespace Go.Proofs.Ytmhhajdeafijmaa
open Go.RowKit
set_option linter.unusedVariables false
set_option linter.unusedSimpArgs false
set_option maxRecDepth 100000
set_option maxHeartbeats 8000000
noncomputable section
def J5 (o:YOp):Bool:=inR o.1 1 10 && (decide ((o.2.2.2.1.length:Int)≤200) && (inR o.2.1 0 200 && inR o.2.2.1 0 200))
theorem Ab3 (o:YOp):O3 o=some (J5 o,()):=by
 unfold O3 O0 J5
 simp only[Ad,Ae,Ac,Hy,Ag]
 cases inR o.1 1 10<;>cases decide ((o.2.2.2.1.length:Int)≤200)<;>cases inR o.2.1 0 200<;>rfl
theorem Ai5 (o:YOp):Pd o=some (J5 o,()):=by
 unfold Pd Pc J5
 simp only[Ad,Ae,Ac,J2,Ag]
 cases inR o.1 1 10<;>cases decide ((o.2.2.2.1.length:Int)≤200)<;>cases inR o.2.1 0 200<;>rfl
theorem Al8 (b:List YB) (p n:Int) (hl:b.length≤4294967296):Xc (b,()) (p,()) (n,())=some (if 0≤p∧0≤n∧p+n≤b.length then(((b.drop p.toNat).take n.toNat,()),(true,()))else(([],()),(false,()))):=by
 unfold Xc Xb
 simp only[Ad,Ac,Ah]
 by_cases h1:n<0
 ·rw[Af h1,Ap,if_neg zq0]
 rw[Au h1,Aj]
 by_cases h2:p<0
 ·rw[Af h2,Ap,if_neg zq0]
 rw[Au h2,Aj]
 by_cases h3:n>(b.length:Int)
 ·rw[Af h3,Ap,if_neg zq0]
 rw[Au h3,Aj,w64 zq0]
 by_cases h4:p>(b.length:Int)-n
 ·rw[Af h4,Ap,if_neg zq0]
 rw[Au h4,Aj,w64 zq0,if_pos zq0,Af zq0,Af zq0,Af zq0]
 have e:(b.take (p+n).toNat).drop p.toNat=(b.drop p.toNat).take n.toNat:=by
  rw[List.drop_take,show(p+n).toNat-p.toNat=n.toNat by omega]
 rw[e,Af (by simp only[List.length_nil,List.length_take,List.length_drop];omega)]
 rfl
def Ai6 (x y:YB):YB:=((IntKind.u8.wrap ((BitVec.ofInt (IntKind.u8.bits) (x.1) ^^^ BitVec.ofInt (IntKind.u8.bits) (y.1)).toNat:Nat)),())
def I1 (a b:List YB):List YB:=List.zipWith Ai6 a b
theorem Ab4 {a b:List YB} {i:Nat} {x y:YB} (hx:a[i]? =some x) (hy:b[i]? =some y):(I1 a b).take (i+1)=(I1 a b).take i++[Ai6 x y]:=by
 have h:(I1 a b)[i]? =some (Ai6 x y):=by unfold I1;rw[List.getElem?_zipWith,hx,hy]
 obtain⟨h1,h2⟩:=List.getElem?_eq_some_iff.1 h
 rw[List.take_add_one,h];rfl
theorem Ab5 {a b:List YB} (h:a.length=b.length):(I1 a b).length=a.length:=by unfold I1;rw[List.length_zipWith];omega
theorem Akf (a b:List YB) (h:a.length=b.length) (hl:a.length≤4294967290):Q4 (a,()) (b,())=some (I1 a b,()):=by
 have hlen:=Ab5 h
 have e:=B9 (B:=Fv) a.length (fun i=>(b,(I1 a b).take i,a,(a.length:Int),(i:Int),())) (I1 a b,())
  (fun i hi=>by
   have hx:=List.getElem?_eq_getElem hi
   have hy:=List.getElem?_eq_getElem (show i<b.length by omega)
   unfold Fv
   simp only[Ad,Ae,Ac,Ah,Hi hi,Ap,Bb hx,Bb hy,Ag]
   rw[w64 zq0,Ab4 hx hy,Af zq2,Ar]
   rfl)
  (by unfold Fv;simp only[Ad,Ac,Gp,Aj];rw[List.take_of_length_le zq0])
 unfold Q4 Q3
 simp only[Ae,Ac]
 rw[show Am Fv (b,([]:List YB),a,(a.length:Int),(0:Int),())=_ from e]
 rfl
theorem Ahq (l:List YOp) (seen:List A5) (known st:List YBs) (i:Nat) (n:Int) (a b:List YB) (h:a.length=b.length) (hl:a.length≤4294967290) (i0:idx st n=some (a,())) (i1:idx st (IntKind.i64.wrap (n+1))=some (b,())):
  Am Ep (l,seen,known,st,(i:Int),n,([]:List YB),(0:Int),())=some (l,seen,known,st,(i:Int),n,I1 a b,()):=by
 have hlen:=Ab5 h
 exact B9 (B:=Ep) a.length (fun k=>(l,seen,known,st,(i:Int),n,(I1 a b).take k,(k:Int),())) (l,seen,known,st,(i:Int),n,I1 a b,())
  (fun k hi=>by
   have hx:=List.getElem?_eq_getElem hi
   have hy:=List.getElem?_eq_getElem (show k<b.length by omega)
   unfold Ep
   simp only[Ad,Ae,Ac,Ah,i0,i1,Ag,Hi hi,Ap,Bb hx,Bb hy]
   rw[w64 zq0,Ab4 hx hy,Af zq2,Ar]
   rfl)
  (by unfold Ep;simp only[Ad,Ae,Ac,i0,Ag,Gp,Aj];rw[List.take_of_length_le zq0])
theorem Rt (st:List YBs) (h:1≤(st.length:Int)): ∃pre a,st=pre++[(a,())]:=by
 have hne:st≠[]:=by rintro rfl;simp at h
 exact⟨st.dropLast,(st.getLast hne).1,(List.dropLast_concat_getLast hne).symm⟩
theorem Ru (st:List YBs) (h:2≤(st.length:Int)): ∃pre a b,st=pre++[(a,()),(b,())]:=by
 obtain⟨p,b,rfl⟩:=Rt st zq0
 obtain⟨pre,a,rfl⟩:=Rt p (by simp at h;omega)
 exact⟨pre,a,b,by simp⟩
theorem Alb (st:List YBs) (h:3≤(st.length:Int)): ∃pre a b c,st=pre++[(a,()),(b,()),(c,())]:=by
 obtain⟨p,c,rfl⟩:=Rt st zq0
 obtain⟨pre,a,b,rfl⟩:=Ru p (by simp at h;omega)
 exact⟨pre,a,b,c,by simp⟩
abbrev DI:=(List A5)×(List YBs)×(List YBs)×(List YOp)×Int×Int×Unit
abbrev DS:=(List YOp)×(List A5)×(List YBs)×(List YBs)×Int×Unit
abbrev DO:=((List YB)×Bool×Unit)⊕((List YBs)×Unit)
def Rv (l:List YOp) (seen:List A5) (known:List YBs) (i:Nat):Option (List YBs)→Option (DI⊕DO)
 |none=>some (.inr (.inl (([]:List YB),false,())))
 |some t=>some (.inl (seen,known,t,l,(l.length:Int),((i+1:Nat):Int),()))
def Ai7 (l:List YOp) (seen:List A5) (known:List YBs) (i:Nat):Option (List YBs)→Option (DS⊕DO)
 |none=>some (.inr (.inl (([]:List YB),false,())))
 |some t=>some (.inl (l,seen,known,t,((i+1:Nat):Int),()))
def Ss (t:List YBs):Prop:=t.length≤8∧ ∀y∈t,y.1.length≤200
theorem Zy (l:List YOp) (seen:List A5) (known st:List YBs) (i:Nat) (x:YOp) (hi:i<l.length) (hx:l[i]? =some x) (hll:l.length≤16) (hst:st.length≤8) (hb: ∀y∈st,y.1.length≤200)
  (hseen: ∀w∈seen,w.2.2.2.2.1.length≤4294967296) (hknown: ∀w∈known,w.1.length≤4294967296) (hsl:seen.length≤4294967296) (hkl:known.length≤4294967296):
  ∃R:Option (List YBs),A8 (seen,known,st,l,(l.length:Int),(i:Int),())=Rv l seen known i R∧Du (l,seen,known,st,(i:Int),())=Ai7 l seen known i R∧ ∀t,R=some t→Ss t:=by
 have nope: ∃R:Option (List YBs),(some (.inr (.inl (([]:List YB),false,()))):Option (DI⊕DO))=Rv l seen known i R∧(some (.inr (.inl (([]:List YB),false,()))):Option (DS⊕DO))=Ai7 l seen known i R∧ ∀t,R=some t→Ss t:=⟨none,rfl,rfl,fun t h=>by cases h⟩
 have fin: ∀(pre:List YBs) (r:List YB),pre.length≤8→(∀y∈pre,y.1.length≤200)→ ∃R:Option (List YBs),
   br (decide ((r.length:Int)>(200:Int))) (some (.inr (.inl (([]:List YB),false,()))):Option (DI⊕DO)) (br (decide (IntKind.i64.wrap ((pre.length:Int)+(1:Int))>(8:Int))) (some (.inr (.inl (([]:List YB),false,())))) (some (.inl (seen,known,pre++[(r,())],l,(l.length:Int),((i+1:Nat):Int),()))))=Rv l seen known i R∧
   br (decide ((r.length:Int)>(200:Int))) (some (.inr (.inl (([]:List YB),false,()))):Option (DS⊕DO)) (br ((pre.length:Int)==(8:Int)) (some (.inr (.inl (([]:List YB),false,())))) (some (.inl (l,seen,known,pre++[(r,())],((i+1:Nat):Int),()))))=Ai7 l seen known i R∧ ∀t,R=some t→Ss t:=fun pre r hp hpb=>by
  by_cases h1:(r.length:Int)>200
  ·rw[Af h1];exact nope
  rw[Au h1,Aj,Aj,w64 zq0]
  by_cases h2:(pre.length:Int)=8
  ·rw[Af zq0,show((pre.length:Int)==(8:Int))=true by simpa using h2];exact nope
  rw[Au zq0,show((pre.length:Int)==(8:Int))=false by simpa using h2,Aj,Aj]
  refine⟨some (pre++[(r,())]),rfl,rfl,fun t ht=>?_⟩
  simp only[Option.some.injEq]at ht
  subst ht
  refine⟨by simp;omega,fun y hy=>?_⟩
  rcases List.mem_append.1 hy with hy|hy
  ·exact hpb y hy
  ·simp only[List.mem_singleton]at hy
   subst hy;dsimp only;omega
 have e0:IntKind.i64.wrap ((i:Int)+1)=((i+1:Nat):Int):=by rw[w64 zq0];rfl
 unfold A8 Du
 simp only[Ad,Ae,Ac,Ah,Hi hi,Ap,Bb hx,Ag,Ab3,Ai5]
 cases hso:J5 x with
 |false=>
  have hop: ∃q,Br (x.1,())=some q:=by
   unfold Br Kz
   simp only[Ad,Ac]
   cases (x.1==(4:Int))<;>cases (x.1==(9:Int))<;>cases (x.1==(5:Int))<;>cases (x.1==(6:Int))<;>cases (x.1==(7:Int))<;>cases (x.1==(8:Int))<;>cases (x.1==(10:Int))<;>exact⟨_,rfl⟩
  obtain⟨q,hq⟩:=hop
  rw[hq,Ag]
  exact nope
 |true=>
 simp only[Bool.not_true,Aj]
 unfold J5 at hso
 simp only[Bool.and_eq_true,Kq,decide_eq_true_eq]at hso
 obtain⟨hk,hB,hI,hJ⟩:=hso
 have c1:((0:Int)≤(st.length:Int))=True:=eq_true zq0
 have c3:((st.length:Int)≤(st.length:Int))=True:=eq_true (Int.le_refl _)
 have c5:(st.length≤4294967296)=True:=eq_true zq0
 have c6:(st.length+1≤4294967296)=True:=eq_true zq0
 have hks:x.1=1∨x.1=2∨x.1=3∨x.1=4∨x.1=5∨x.1=6∨x.1=7∨x.1=8∨x.1=9∨x.1=10:=by omega
 clear hk
 rcases hks with hk|hk|hk|hk|hk|hk|hk|hk|hk|hk
 ·
  have hop:Br (x.1,())=some ((0:Int),()):=by rw[hk];rfl
  have hop2:Bq (x.1,())=some ((0:Int),()):=by rw[hk];rfl
  simp only[hop,hop2,Ag]
  have e1:IntKind.i64.wrap ((st.length:Int)-0)=(st.length:Int):=by rw[w64 zq0];omega
  have e3:(st.take ((st.length:Int)).toNat).drop (0:Int).toNat=st:=by simp
  have c2:((st.length:Int)<0)=False:=eq_false zq0
  simp only[e1,e3,e0,c2,decide_false,Aj]
  have c7:(x.2.2.2.1.length≤4294967296)=True:=eq_true zq0
  have hp: ∀v,Az x v (seen,()) (known,())=some ((x.2.2.2.1,()),(true,())):=fun v=>by unfold Az Bp;simp only[Ad,Ae,Ac,hk,show((1:Int)==(1:Int))=true from rfl,show((1:Int)==(2:Int))=false from rfl,show((1:Int)==(3:Int))=false from rfl,show((1:Int)==(4:Int))=false from rfl,show((1:Int)==(5:Int))=false from rfl,show((1:Int)==(6:Int))=false from rfl,show((1:Int)==(7:Int))=false from rfl,show((1:Int)==(8:Int))=false from rfl,show((1:Int)==(9:Int))=false from rfl,show((1:Int)==(10:Int))=false from rfl,Ap,Aj]
  simp only[hp,hk,show((1:Int)==(1:Int))=true from rfl,show((1:Int)==(2:Int))=false from rfl,show((1:Int)==(3:Int))=false from rfl,show((1:Int)==(4:Int))=false from rfl,show((1:Int)==(5:Int))=false from rfl,show((1:Int)==(6:Int))=false from rfl,show((1:Int)==(7:Int))=false from rfl,show((1:Int)==(8:Int))=false from rfl,show((1:Int)==(9:Int))=false from rfl,show((1:Int)==(10:Int))=false from rfl,Ap,Aj,Ag,Bool.not_true,List.length_nil,Nat.zero_add,List.nil_append,List.length_cons,e1,e3,c1,c3,c5,c6,c7,decide_true,Ar]
  exact fin st x.2.2.2.1 hst hb
 ·
  have hop:Br (x.1,())=some ((0:Int),()):=by rw[hk];rfl
  have hop2:Bq (x.1,())=some ((0:Int),()):=by rw[hk];rfl
  simp only[hop,hop2,Ag]
  have e1:IntKind.i64.wrap ((st.length:Int)-0)=(st.length:Int):=by rw[w64 zq0];omega
  have e3:(st.take ((st.length:Int)).toNat).drop (0:Int).toNat=st:=by simp
  have c2:((st.length:Int)<0)=False:=eq_false zq0
  simp only[e1,e3,e0,c2,decide_false,Aj]
  by_cases hI:x.2.1<(seen.length:Int)
  case neg=>
   have hp: ∀v,Az x v (seen,()) (known,())=some (([],()),(false,())):=fun v=>by unfold Az Bp;simp only[Ad,Ae,Ac,hk,show((2:Int)==(1:Int))=false from rfl,show((2:Int)==(2:Int))=true from rfl,show((2:Int)==(3:Int))=false from rfl,show((2:Int)==(4:Int))=false from rfl,show((2:Int)==(5:Int))=false from rfl,show((2:Int)==(6:Int))=false from rfl,show((2:Int)==(7:Int))=false from rfl,show((2:Int)==(8:Int))=false from rfl,show((2:Int)==(9:Int))=false from rfl,show((2:Int)==(10:Int))=false from rfl,Ap,Aj,eq_false hI,decide_false]
   have hI2:(x.2.1≥(seen.length:Int))=True:=eq_true zq0
   simp only[hp,hk,show((2:Int)==(1:Int))=false from rfl,show((2:Int)==(2:Int))=true from rfl,show((2:Int)==(3:Int))=false from rfl,show((2:Int)==(4:Int))=false from rfl,show((2:Int)==(5:Int))=false from rfl,show((2:Int)==(6:Int))=false from rfl,show((2:Int)==(7:Int))=false from rfl,show((2:Int)==(8:Int))=false from rfl,show((2:Int)==(9:Int))=false from rfl,show((2:Int)==(10:Int))=false from rfl,Ap,Aj,Ag,Bool.not_false,hI2,e1,e3,c1,c3,c5,c6,decide_true,Ar]
   exact nope
  have hIn:x.2.1=((x.2.1.toNat:Nat):Int):=by omega
  have hw: ∃w,seen[x.2.1.toNat]? =some w:=⟨_,List.getElem?_eq_getElem zq0⟩
  obtain⟨w,hw⟩:=hw
  have hwi:idx seen x.2.1=some w:=by rw[hIn];exact Bb hw
  have hp: ∀v,Az x v (seen,()) (known,())=some ((w.2.2.2.2.1,()),(true,())):=fun v=>by unfold Az Bp;simp only[Ad,Ae,Ac,hk,show((2:Int)==(1:Int))=false from rfl,show((2:Int)==(2:Int))=true from rfl,show((2:Int)==(3:Int))=false from rfl,show((2:Int)==(4:Int))=false from rfl,show((2:Int)==(5:Int))=false from rfl,show((2:Int)==(6:Int))=false from rfl,show((2:Int)==(7:Int))=false from rfl,show((2:Int)==(8:Int))=false from rfl,show((2:Int)==(9:Int))=false from rfl,show((2:Int)==(10:Int))=false from rfl,Ap,Aj,eq_true hI,decide_true,hwi,Ag]
  have hI2:(x.2.1≥(seen.length:Int))=False:=eq_false zq0
  have c7:(w.2.2.2.2.1.length≤4294967296)=True:=eq_true (hseen w (List.mem_of_getElem? hw))
  simp only[hp,hk,show((2:Int)==(1:Int))=false from rfl,show((2:Int)==(2:Int))=true from rfl,show((2:Int)==(3:Int))=false from rfl,show((2:Int)==(4:Int))=false from rfl,show((2:Int)==(5:Int))=false from rfl,show((2:Int)==(6:Int))=false from rfl,show((2:Int)==(7:Int))=false from rfl,show((2:Int)==(8:Int))=false from rfl,show((2:Int)==(9:Int))=false from rfl,show((2:Int)==(10:Int))=false from rfl,Ap,Aj,Ag,Bool.not_true,hI2,hwi,decide_false,List.length_nil,Nat.zero_add,List.nil_append,List.length_cons,e1,e3,c1,c3,c5,c6,c7,decide_true,Ar]
  exact fin st w.2.2.2.2.1 hst hb
 ·
  have hop:Br (x.1,())=some ((0:Int),()):=by rw[hk];rfl
  have hop2:Bq (x.1,())=some ((0:Int),()):=by rw[hk];rfl
  simp only[hop,hop2,Ag]
  have e1:IntKind.i64.wrap ((st.length:Int)-0)=(st.length:Int):=by rw[w64 zq0];omega
  have e3:(st.take ((st.length:Int)).toNat).drop (0:Int).toNat=st:=by simp
  have c2:((st.length:Int)<0)=False:=eq_false zq0
  simp only[e1,e3,e0,c2,decide_false,Aj]
  by_cases hI:x.2.1<(known.length:Int)
  case neg=>
   have hp: ∀v,Az x v (seen,()) (known,())=some (([],()),(false,())):=fun v=>by unfold Az Bp;simp only[Ad,Ae,Ac,hk,show((3:Int)==(1:Int))=false from rfl,show((3:Int)==(2:Int))=false from rfl,show((3:Int)==(3:Int))=true from rfl,show((3:Int)==(4:Int))=false from rfl,show((3:Int)==(5:Int))=false from rfl,show((3:Int)==(6:Int))=false from rfl,show((3:Int)==(7:Int))=false from rfl,show((3:Int)==(8:Int))=false from rfl,show((3:Int)==(9:Int))=false from rfl,show((3:Int)==(10:Int))=false from rfl,Ap,Aj,eq_false hI,decide_false]
   have hI2:(x.2.1≥(known.length:Int))=True:=eq_true zq0
   simp only[hp,hk,show((3:Int)==(1:Int))=false from rfl,show((3:Int)==(2:Int))=false from rfl,show((3:Int)==(3:Int))=true from rfl,show((3:Int)==(4:Int))=false from rfl,show((3:Int)==(5:Int))=false from rfl,show((3:Int)==(6:Int))=false from rfl,show((3:Int)==(7:Int))=false from rfl,show((3:Int)==(8:Int))=false from rfl,show((3:Int)==(9:Int))=false from rfl,show((3:Int)==(10:Int))=false from rfl,Ap,Aj,Ag,Bool.not_false,hI2,e1,e3,c1,c3,c5,c6,decide_true,Ar]
   exact nope
  have hIn:x.2.1=((x.2.1.toNat:Nat):Int):=by omega
  have hw: ∃w,known[x.2.1.toNat]? =some w:=⟨_,List.getElem?_eq_getElem zq0⟩
  obtain⟨w,hw⟩:=hw
  have hwi:idx known x.2.1=some w:=by rw[hIn];exact Bb hw
  have hp: ∀v,Az x v (seen,()) (known,())=some ((w.1,()),(true,())):=fun v=>by unfold Az Bp;simp only[Ad,Ae,Ac,hk,show((3:Int)==(1:Int))=false from rfl,show((3:Int)==(2:Int))=false from rfl,show((3:Int)==(3:Int))=true from rfl,show((3:Int)==(4:Int))=false from rfl,show((3:Int)==(5:Int))=false from rfl,show((3:Int)==(6:Int))=false from rfl,show((3:Int)==(7:Int))=false from rfl,show((3:Int)==(8:Int))=false from rfl,show((3:Int)==(9:Int))=false from rfl,show((3:Int)==(10:Int))=false from rfl,Ap,Aj,eq_true hI,decide_true,hwi,Ag]
  have hI2:(x.2.1≥(known.length:Int))=False:=eq_false zq0
  have c7:(w.1.length≤4294967296)=True:=eq_true (hknown w (List.mem_of_getElem? hw))
  simp only[hp,hk,show((3:Int)==(1:Int))=false from rfl,show((3:Int)==(2:Int))=false from rfl,show((3:Int)==(3:Int))=true from rfl,show((3:Int)==(4:Int))=false from rfl,show((3:Int)==(5:Int))=false from rfl,show((3:Int)==(6:Int))=false from rfl,show((3:Int)==(7:Int))=false from rfl,show((3:Int)==(8:Int))=false from rfl,show((3:Int)==(9:Int))=false from rfl,show((3:Int)==(10:Int))=false from rfl,Ap,Aj,Ag,Bool.not_true,hI2,hwi,decide_false,List.length_nil,Nat.zero_add,List.nil_append,List.length_cons,e1,e3,c1,c3,c5,c6,c7,decide_true,Ar]
  exact fin st w.1 hst hb
 ·
  have hop:Br (x.1,())=some ((1:Int),()):=by rw[hk];rfl
  have hop2:Bq (x.1,())=some ((1:Int),()):=by rw[hk];rfl
  simp only[hop,hop2,Ag]
  by_cases hn:(st.length:Int)<1
  case pos=>
   have hn2:(IntKind.i64.wrap ((st.length:Int)-1)<0)=True:=eq_true (by rw[w64 zq0];omega)
   simp only[hn2,eq_true hn,decide_true,Ap]
   exact nope
  obtain⟨pre,a,hs⟩:=Rt st zq0
  subst hs
  have hpl:pre.length+1≤8:=by simpa using hst
  have hpb: ∀y∈pre,y.1.length≤200:=fun y hy=>hb y (List.mem_append.2 (.inl hy))
  have hla:a.length≤200:=hb (a,()) zq3
  have e1:IntKind.i64.wrap (((pre++[(a,())]).length:Int)-1)=(pre.length:Int):=by rw[w64 zq2];simp only[List.length_append,List.length_cons,List.length_nil];omega
  have e2:((pre++[(a,())]).take (((pre++[(a,())]).length:Int)).toNat).drop ((pre.length:Int)).toNat=[(a,())]:=by rw[Int.toNat_natCast,Int.toNat_natCast,List.take_length,List.drop_left]
  have e3:((pre++[(a,())]).take ((pre.length:Int)).toNat).drop (0:Int).toNat=pre:=by simp
  have c1:((0:Int)≤(pre.length:Int))=True:=eq_true zq0
  have c2:((pre.length:Int)<0)=False:=eq_false zq0
  have c3:((pre.length:Int)≤((pre++[(a,())]).length:Int))=True:=eq_true zq2
  have c4:(((pre++[(a,())]).length:Int)≤((pre++[(a,())]).length:Int))=True:=eq_true (Int.le_refl _)
  have c5:(pre.length≤4294967296)=True:=eq_true zq0
  have c6:(pre.length+1≤4294967296)=True:=eq_true zq0
  have i0:idx (pre++[(a,())]) (pre.length:Int)=some (a,()):=Bb zq3
  simp only[e1,e2,e3,c2,eq_false hn,decide_false,Aj]
  have hc1:=Afs a x.2.1 x.2.2.1 zq0
  have hc2:=Al8 a x.2.1 x.2.2.1 zq0
  by_cases hc:0≤x.2.1∧0≤x.2.2.1∧x.2.1+x.2.2.1≤a.length
  ·rw[if_pos hc]at hc1 hc2
   have hp:Az x ([(a,())],()) (seen,()) (known,())=some (((a.drop x.2.1.toNat).take x.2.2.1.toNat,()),(true,())):=by
    unfold Az Bp
    simp only[Ad,Ae,Ac,hk,show((4:Int)==(1:Int))=false from rfl,show((4:Int)==(2:Int))=false from rfl,show((4:Int)==(3:Int))=false from rfl,show((4:Int)==(4:Int))=true from rfl,show((4:Int)==(5:Int))=false from rfl,show((4:Int)==(6:Int))=false from rfl,show((4:Int)==(7:Int))=false from rfl,show((4:Int)==(8:Int))=false from rfl,show((4:Int)==(9:Int))=false from rfl,show((4:Int)==(10:Int))=false from rfl,Ap,Aj,show idx [(a,())] (0:Int)=some (a,())from rfl,Ag,hc1]
   simp only[hp,hk,show((4:Int)==(1:Int))=false from rfl,show((4:Int)==(2:Int))=false from rfl,show((4:Int)==(3:Int))=false from rfl,show((4:Int)==(4:Int))=true from rfl,show((4:Int)==(5:Int))=false from rfl,show((4:Int)==(6:Int))=false from rfl,show((4:Int)==(7:Int))=false from rfl,show((4:Int)==(8:Int))=false from rfl,show((4:Int)==(9:Int))=false from rfl,show((4:Int)==(10:Int))=false from rfl,Ap,Aj,Ag,Bool.not_true,List.length_nil,Nat.zero_add,List.nil_append,List.length_cons,e0,e1,e2,e3,c1,c3,c4,c5,c6,i0,decide_true,Ar,hc2]
   exact fin pre ((a.drop x.2.1.toNat).take x.2.2.1.toNat) zq0 hpb
  ·rw[if_neg hc]at hc1 hc2
   have hp:Az x ([(a,())],()) (seen,()) (known,())=some (([],()),(false,())):=by
    unfold Az Bp
    simp only[Ad,Ae,Ac,hk,show((4:Int)==(1:Int))=false from rfl,show((4:Int)==(2:Int))=false from rfl,show((4:Int)==(3:Int))=false from rfl,show((4:Int)==(4:Int))=true from rfl,show((4:Int)==(5:Int))=false from rfl,show((4:Int)==(6:Int))=false from rfl,show((4:Int)==(7:Int))=false from rfl,show((4:Int)==(8:Int))=false from rfl,show((4:Int)==(9:Int))=false from rfl,show((4:Int)==(10:Int))=false from rfl,Ap,Aj,show idx [(a,())] (0:Int)=some (a,())from rfl,Ag,hc1]
   simp only[hp,hk,show((4:Int)==(1:Int))=false from rfl,show((4:Int)==(2:Int))=false from rfl,show((4:Int)==(3:Int))=false from rfl,show((4:Int)==(4:Int))=true from rfl,show((4:Int)==(5:Int))=false from rfl,show((4:Int)==(6:Int))=false from rfl,show((4:Int)==(7:Int))=false from rfl,show((4:Int)==(8:Int))=false from rfl,show((4:Int)==(9:Int))=false from rfl,show((4:Int)==(10:Int))=false from rfl,Ap,Aj,Ag,Bool.not_false,e0,e1,e2,e3,c1,c3,c4,c5,c6,i0,decide_true,Ar,hc2]
   exact nope
 ·
  have hop:Br (x.1,())=some ((2:Int),()):=by rw[hk];rfl
  have hop2:Bq (x.1,())=some ((2:Int),()):=by rw[hk];rfl
  simp only[hop,hop2,Ag]
  by_cases hn:(st.length:Int)<2
  case pos=>
   have hn2:(IntKind.i64.wrap ((st.length:Int)-2)<0)=True:=eq_true (by rw[w64 zq0];omega)
   simp only[hn2,eq_true hn,decide_true,Ap]
   exact nope
  obtain⟨pre,a,b,hs⟩:=Ru st zq0
  subst hs
  have hpl:pre.length+2≤8:=by simpa using hst
  have hpb: ∀y∈pre,y.1.length≤200:=fun y hy=>hb y (List.mem_append.2 (.inl hy))
  have hla:a.length≤200:=hb (a,()) zq3
  have hlb:b.length≤200:=hb (b,()) zq3
  have e1:IntKind.i64.wrap (((pre++[(a,()),(b,())]).length:Int)-2)=(pre.length:Int):=by rw[w64 zq2];simp only[List.length_append,List.length_cons,List.length_nil];omega
  have e2:((pre++[(a,()),(b,())]).take (((pre++[(a,()),(b,())]).length:Int)).toNat).drop ((pre.length:Int)).toNat=[(a,()),(b,())]:=by rw[Int.toNat_natCast,Int.toNat_natCast,List.take_length,List.drop_left]
  have e3:((pre++[(a,()),(b,())]).take ((pre.length:Int)).toNat).drop (0:Int).toNat=pre:=by simp
  have c1:((0:Int)≤(pre.length:Int))=True:=eq_true zq0
  have c2:((pre.length:Int)<0)=False:=eq_false zq0
  have c3:((pre.length:Int)≤((pre++[(a,()),(b,())]).length:Int))=True:=eq_true zq2
  have c4:(((pre++[(a,()),(b,())]).length:Int)≤((pre++[(a,()),(b,())]).length:Int))=True:=eq_true (Int.le_refl _)
  have c5:(pre.length≤4294967296)=True:=eq_true zq0
  have c6:(pre.length+1≤4294967296)=True:=eq_true zq0
  have i0:idx (pre++[(a,()),(b,())]) (pre.length:Int)=some (a,()):=Bb zq3
  have i1:idx (pre++[(a,()),(b,())]) (IntKind.i64.wrap ((pre.length:Int)+1))=some (b,()):=by rw[w64 zq0];exact Bb (i:=pre.length+1) zq3
  simp only[e1,e2,e3,c2,eq_false hn,decide_false,Aj]
  have hcat:cat [(a,()),(b,())]=a++b:=by simp[cat]
  have hj:=Hz [(a,()),(b,())] (by rw[hcat];simp;omega) zq3
  rw[hcat]at hj
  have hp:Az x ([(a,()),(b,())],()) (seen,()) (known,())=some ((a++b,()),(true,())):=by
   unfold Az Bp
   simp only[Ad,Ae,Ac,hk,show((5:Int)==(1:Int))=false from rfl,show((5:Int)==(2:Int))=false from rfl,show((5:Int)==(3:Int))=false from rfl,show((5:Int)==(4:Int))=false from rfl,show((5:Int)==(5:Int))=true from rfl,show((5:Int)==(6:Int))=false from rfl,show((5:Int)==(7:Int))=false from rfl,show((5:Int)==(8:Int))=false from rfl,show((5:Int)==(9:Int))=false from rfl,show((5:Int)==(10:Int))=false from rfl,Ap,Aj,show idx [(a,()),(b,())] (0:Int)=some (a,())from rfl,show idx [(a,()),(b,())] (1:Int)=some (b,())from rfl,Ag,hj]
  have c7:(a.length≤4294967296)=True:=eq_true zq0
  have c8:(a.length+b.length≤4294967296)=True:=eq_true zq0
  simp only[hp,hk,show((5:Int)==(1:Int))=false from rfl,show((5:Int)==(2:Int))=false from rfl,show((5:Int)==(3:Int))=false from rfl,show((5:Int)==(4:Int))=false from rfl,show((5:Int)==(5:Int))=true from rfl,show((5:Int)==(6:Int))=false from rfl,show((5:Int)==(7:Int))=false from rfl,show((5:Int)==(8:Int))=false from rfl,show((5:Int)==(9:Int))=false from rfl,show((5:Int)==(10:Int))=false from rfl,Ap,Aj,Ag,Bool.not_true,List.length_nil,Nat.zero_add,List.nil_append,List.length_cons,e0,e1,e2,e3,c1,c3,c4,c5,c6,i0,i1,decide_true,Ar,c7,c8]
  exact fin pre (a++b) zq0 hpb
 ·
  have hop:Br (x.1,())=some ((2:Int),()):=by rw[hk];rfl
  have hop2:Bq (x.1,())=some ((2:Int),()):=by rw[hk];rfl
  simp only[hop,hop2,Ag]
  by_cases hn:(st.length:Int)<2
  case pos=>
   have hn2:(IntKind.i64.wrap ((st.length:Int)-2)<0)=True:=eq_true (by rw[w64 zq0];omega)
   simp only[hn2,eq_true hn,decide_true,Ap]
   exact nope
  obtain⟨pre,a,b,hs⟩:=Ru st zq0
  subst hs
  have hpl:pre.length+2≤8:=by simpa using hst
  have hpb: ∀y∈pre,y.1.length≤200:=fun y hy=>hb y (List.mem_append.2 (.inl hy))
  have hla:a.length≤200:=hb (a,()) zq3
  have hlb:b.length≤200:=hb (b,()) zq3
  have e1:IntKind.i64.wrap (((pre++[(a,()),(b,())]).length:Int)-2)=(pre.length:Int):=by rw[w64 zq2];simp only[List.length_append,List.length_cons,List.length_nil];omega
  have e2:((pre++[(a,()),(b,())]).take (((pre++[(a,()),(b,())]).length:Int)).toNat).drop ((pre.length:Int)).toNat=[(a,()),(b,())]:=by rw[Int.toNat_natCast,Int.toNat_natCast,List.take_length,List.drop_left]
  have e3:((pre++[(a,()),(b,())]).take ((pre.length:Int)).toNat).drop (0:Int).toNat=pre:=by simp
  have c1:((0:Int)≤(pre.length:Int))=True:=eq_true zq0
  have c2:((pre.length:Int)<0)=False:=eq_false zq0
  have c3:((pre.length:Int)≤((pre++[(a,()),(b,())]).length:Int))=True:=eq_true zq2
  have c4:(((pre++[(a,()),(b,())]).length:Int)≤((pre++[(a,()),(b,())]).length:Int))=True:=eq_true (Int.le_refl _)
  have c5:(pre.length≤4294967296)=True:=eq_true zq0
  have c6:(pre.length+1≤4294967296)=True:=eq_true zq0
  have i0:idx (pre++[(a,()),(b,())]) (pre.length:Int)=some (a,()):=Bb zq3
  have i1:idx (pre++[(a,()),(b,())]) (IntKind.i64.wrap ((pre.length:Int)+1))=some (b,()):=by rw[w64 zq0];exact Bb (i:=pre.length+1) zq3
  simp only[e1,e2,e3,c2,eq_false hn,decide_false,Aj]
  by_cases hab:a.length=b.length
  ·have hab2:((a.length:Int)==(b.length:Int))=true:=by simp[hab]
   have hx:=Akf a b hab zq0
   have hp:Az x ([(a,()),(b,())],()) (seen,()) (known,())=some ((I1 a b,()),(true,())):=by
    unfold Az Bp
    simp only[Ad,Ae,Ac,hk,show((6:Int)==(1:Int))=false from rfl,show((6:Int)==(2:Int))=false from rfl,show((6:Int)==(3:Int))=false from rfl,show((6:Int)==(4:Int))=false from rfl,show((6:Int)==(5:Int))=false from rfl,show((6:Int)==(6:Int))=true from rfl,show((6:Int)==(7:Int))=false from rfl,show((6:Int)==(8:Int))=false from rfl,show((6:Int)==(9:Int))=false from rfl,show((6:Int)==(10:Int))=false from rfl,Ap,Aj,show idx [(a,()),(b,())] (0:Int)=some (a,())from rfl,show idx [(a,()),(b,())] (1:Int)=some (b,())from rfl,Ag,hab2,hx]
   have hl:=Ahq l seen known (pre++[(a,()),(b,())]) i (pre.length:Int) a b hab zq0 i0 i1
   have hab3:((a.length:Int) != (b.length:Int))=false:=by unfold bne;rw[hab2];rfl
   simp only[hp,hk,show((6:Int)==(1:Int))=false from rfl,show((6:Int)==(2:Int))=false from rfl,show((6:Int)==(3:Int))=false from rfl,show((6:Int)==(4:Int))=false from rfl,show((6:Int)==(5:Int))=false from rfl,show((6:Int)==(6:Int))=true from rfl,show((6:Int)==(7:Int))=false from rfl,show((6:Int)==(8:Int))=false from rfl,show((6:Int)==(9:Int))=false from rfl,show((6:Int)==(10:Int))=false from rfl,Ap,Aj,Ag,Bool.not_true,List.length_nil,Nat.zero_add,List.nil_append,List.length_cons,e0,e1,e2,e3,c1,c3,c4,c5,c6,i0,i1,decide_true,Ar,hab3,hl]
   exact fin pre (I1 a b) zq0 hpb
  ·have hab2:((a.length:Int)==(b.length:Int))=false:=by simp;omega
   have hab3:((a.length:Int) != (b.length:Int))=true:=by unfold bne;rw[hab2];rfl
   have hp:Az x ([(a,()),(b,())],()) (seen,()) (known,())=some (([],()),(false,())):=by
    unfold Az Bp
    simp only[Ad,Ae,Ac,hk,show((6:Int)==(1:Int))=false from rfl,show((6:Int)==(2:Int))=false from rfl,show((6:Int)==(3:Int))=false from rfl,show((6:Int)==(4:Int))=false from rfl,show((6:Int)==(5:Int))=false from rfl,show((6:Int)==(6:Int))=true from rfl,show((6:Int)==(7:Int))=false from rfl,show((6:Int)==(8:Int))=false from rfl,show((6:Int)==(9:Int))=false from rfl,show((6:Int)==(10:Int))=false from rfl,Ap,Aj,show idx [(a,()),(b,())] (0:Int)=some (a,())from rfl,show idx [(a,()),(b,())] (1:Int)=some (b,())from rfl,Ag,hab2]
   simp only[hp,hk,show((6:Int)==(1:Int))=false from rfl,show((6:Int)==(2:Int))=false from rfl,show((6:Int)==(3:Int))=false from rfl,show((6:Int)==(4:Int))=false from rfl,show((6:Int)==(5:Int))=false from rfl,show((6:Int)==(6:Int))=true from rfl,show((6:Int)==(7:Int))=false from rfl,show((6:Int)==(8:Int))=false from rfl,show((6:Int)==(9:Int))=false from rfl,show((6:Int)==(10:Int))=false from rfl,Ap,Aj,Ag,Bool.not_false,e0,e1,e2,e3,c1,c3,c4,c5,c6,i0,i1,decide_true,Ar,hab3]
   exact nope
 ·
  have hop:Br (x.1,())=some ((2:Int),()):=by rw[hk];rfl
  have hop2:Bq (x.1,())=some ((2:Int),()):=by rw[hk];rfl
  simp only[hop,hop2,Ag]
  by_cases hn:(st.length:Int)<2
  case pos=>
   have hn2:(IntKind.i64.wrap ((st.length:Int)-2)<0)=True:=eq_true (by rw[w64 zq0];omega)
   simp only[hn2,eq_true hn,decide_true,Ap]
   exact nope
  obtain⟨pre,a,b,hs⟩:=Ru st zq0
  subst hs
  have hpl:pre.length+2≤8:=by simpa using hst
  have hpb: ∀y∈pre,y.1.length≤200:=fun y hy=>hb y (List.mem_append.2 (.inl hy))
  have hla:a.length≤200:=hb (a,()) zq3
  have hlb:b.length≤200:=hb (b,()) zq3
  have e1:IntKind.i64.wrap (((pre++[(a,()),(b,())]).length:Int)-2)=(pre.length:Int):=by rw[w64 zq2];simp only[List.length_append,List.length_cons,List.length_nil];omega
  have e2:((pre++[(a,()),(b,())]).take (((pre++[(a,()),(b,())]).length:Int)).toNat).drop ((pre.length:Int)).toNat=[(a,()),(b,())]:=by rw[Int.toNat_natCast,Int.toNat_natCast,List.take_length,List.drop_left]
  have e3:((pre++[(a,()),(b,())]).take ((pre.length:Int)).toNat).drop (0:Int).toNat=pre:=by simp
  have c1:((0:Int)≤(pre.length:Int))=True:=eq_true zq0
  have c2:((pre.length:Int)<0)=False:=eq_false zq0
  have c3:((pre.length:Int)≤((pre++[(a,()),(b,())]).length:Int))=True:=eq_true zq2
  have c4:(((pre++[(a,()),(b,())]).length:Int)≤((pre++[(a,()),(b,())]).length:Int))=True:=eq_true (Int.le_refl _)
  have c5:(pre.length≤4294967296)=True:=eq_true zq0
  have c6:(pre.length+1≤4294967296)=True:=eq_true zq0
  have i0:idx (pre++[(a,()),(b,())]) (pre.length:Int)=some (a,()):=Bb zq3
  have i1:idx (pre++[(a,()),(b,())]) (IntKind.i64.wrap ((pre.length:Int)+1))=some (b,()):=by rw[w64 zq0];exact Bb (i:=pre.length+1) zq3
  simp only[e1,e2,e3,c2,eq_false hn,decide_false,Aj]
  have hp:Az x ([(a,()),(b,())],()) (seen,()) (known,())=some ((Di a b,()),(true,())):=by
   unfold Az Bp
   simp only[Ad,Ae,Ac,hk,show((7:Int)==(1:Int))=false from rfl,show((7:Int)==(2:Int))=false from rfl,show((7:Int)==(3:Int))=false from rfl,show((7:Int)==(4:Int))=false from rfl,show((7:Int)==(5:Int))=false from rfl,show((7:Int)==(6:Int))=false from rfl,show((7:Int)==(7:Int))=true from rfl,show((7:Int)==(8:Int))=false from rfl,show((7:Int)==(9:Int))=false from rfl,show((7:Int)==(10:Int))=false from rfl,Ap,Aj,show idx [(a,()),(b,())] (0:Int)=some (a,())from rfl,show idx [(a,()),(b,())] (1:Int)=some (b,())from rfl,Ag,V7]
  simp only[hp,hk,show((7:Int)==(1:Int))=false from rfl,show((7:Int)==(2:Int))=false from rfl,show((7:Int)==(3:Int))=false from rfl,show((7:Int)==(4:Int))=false from rfl,show((7:Int)==(5:Int))=false from rfl,show((7:Int)==(6:Int))=false from rfl,show((7:Int)==(7:Int))=true from rfl,show((7:Int)==(8:Int))=false from rfl,show((7:Int)==(9:Int))=false from rfl,show((7:Int)==(10:Int))=false from rfl,Ap,Aj,Ag,Bool.not_true,List.length_nil,Nat.zero_add,List.nil_append,List.length_cons,e0,e1,e2,e3,c1,c3,c4,c5,c6,i0,i1,decide_true,Ar,V8]
  exact fin pre (Di a b) zq0 hpb
 ·
  have hop:Br (x.1,())=some ((2:Int),()):=by rw[hk];rfl
  have hop2:Bq (x.1,())=some ((2:Int),()):=by rw[hk];rfl
  simp only[hop,hop2,Ag]
  by_cases hn:(st.length:Int)<2
  case pos=>
   have hn2:(IntKind.i64.wrap ((st.length:Int)-2)<0)=True:=eq_true (by rw[w64 zq0];omega)
   simp only[hn2,eq_true hn,decide_true,Ap]
   exact nope
  obtain⟨pre,a,b,hs⟩:=Ru st zq0
  subst hs
  have hpl:pre.length+2≤8:=by simpa using hst
  have hpb: ∀y∈pre,y.1.length≤200:=fun y hy=>hb y (List.mem_append.2 (.inl hy))
  have hla:a.length≤200:=hb (a,()) zq3
  have hlb:b.length≤200:=hb (b,()) zq3
  have e1:IntKind.i64.wrap (((pre++[(a,()),(b,())]).length:Int)-2)=(pre.length:Int):=by rw[w64 zq2];simp only[List.length_append,List.length_cons,List.length_nil];omega
  have e2:((pre++[(a,()),(b,())]).take (((pre++[(a,()),(b,())]).length:Int)).toNat).drop ((pre.length:Int)).toNat=[(a,()),(b,())]:=by rw[Int.toNat_natCast,Int.toNat_natCast,List.take_length,List.drop_left]
  have e3:((pre++[(a,()),(b,())]).take ((pre.length:Int)).toNat).drop (0:Int).toNat=pre:=by simp
  have c1:((0:Int)≤(pre.length:Int))=True:=eq_true zq0
  have c2:((pre.length:Int)<0)=False:=eq_false zq0
  have c3:((pre.length:Int)≤((pre++[(a,()),(b,())]).length:Int))=True:=eq_true zq2
  have c4:(((pre++[(a,()),(b,())]).length:Int)≤((pre++[(a,()),(b,())]).length:Int))=True:=eq_true (Int.le_refl _)
  have c5:(pre.length≤4294967296)=True:=eq_true zq0
  have c6:(pre.length+1≤4294967296)=True:=eq_true zq0
  have i0:idx (pre++[(a,()),(b,())]) (pre.length:Int)=some (a,()):=Bb zq3
  have i1:idx (pre++[(a,()),(b,())]) (IntKind.i64.wrap ((pre.length:Int)+1))=some (b,()):=by rw[w64 zq0];exact Bb (i:=pre.length+1) zq3
  simp only[e1,e2,e3,c2,eq_false hn,decide_false,Aj]
  have hp:Az x ([(a,()),(b,())],()) (seen,()) (known,())=some ((Xv a b,()),(true,())):=by
   unfold Az Bp
   simp only[Ad,Ae,Ac,hk,show((8:Int)==(1:Int))=false from rfl,show((8:Int)==(2:Int))=false from rfl,show((8:Int)==(3:Int))=false from rfl,show((8:Int)==(4:Int))=false from rfl,show((8:Int)==(5:Int))=false from rfl,show((8:Int)==(6:Int))=false from rfl,show((8:Int)==(7:Int))=false from rfl,show((8:Int)==(8:Int))=true from rfl,show((8:Int)==(9:Int))=false from rfl,show((8:Int)==(10:Int))=false from rfl,Ap,Aj,show idx [(a,()),(b,())] (0:Int)=some (a,())from rfl,show idx [(a,()),(b,())] (1:Int)=some (b,())from rfl,Ag,Al3]
  simp only[hp,hk,show((8:Int)==(1:Int))=false from rfl,show((8:Int)==(2:Int))=false from rfl,show((8:Int)==(3:Int))=false from rfl,show((8:Int)==(4:Int))=false from rfl,show((8:Int)==(5:Int))=false from rfl,show((8:Int)==(6:Int))=false from rfl,show((8:Int)==(7:Int))=false from rfl,show((8:Int)==(8:Int))=true from rfl,show((8:Int)==(9:Int))=false from rfl,show((8:Int)==(10:Int))=false from rfl,Ap,Aj,Ag,Bool.not_true,List.length_nil,Nat.zero_add,List.nil_append,List.length_cons,e0,e1,e2,e3,c1,c3,c4,c5,c6,i0,i1,decide_true,Ar,Al4]
  exact fin pre (Xv a b) zq0 hpb
 ·
  have hop:Br (x.1,())=some ((1:Int),()):=by rw[hk];rfl
  have hop2:Bq (x.1,())=some ((1:Int),()):=by rw[hk];rfl
  simp only[hop,hop2,Ag]
  by_cases hn:(st.length:Int)<1
  case pos=>
   have hn2:(IntKind.i64.wrap ((st.length:Int)-1)<0)=True:=eq_true (by rw[w64 zq0];omega)
   simp only[hn2,eq_true hn,decide_true,Ap]
   exact nope
  obtain⟨pre,a,hs⟩:=Rt st zq0
  subst hs
  have hpl:pre.length+1≤8:=by simpa using hst
  have hpb: ∀y∈pre,y.1.length≤200:=fun y hy=>hb y (List.mem_append.2 (.inl hy))
  have hla:a.length≤200:=hb (a,()) zq3
  have e1:IntKind.i64.wrap (((pre++[(a,())]).length:Int)-1)=(pre.length:Int):=by rw[w64 zq2];simp only[List.length_append,List.length_cons,List.length_nil];omega
  have e2:((pre++[(a,())]).take (((pre++[(a,())]).length:Int)).toNat).drop ((pre.length:Int)).toNat=[(a,())]:=by rw[Int.toNat_natCast,Int.toNat_natCast,List.take_length,List.drop_left]
  have e3:((pre++[(a,())]).take ((pre.length:Int)).toNat).drop (0:Int).toNat=pre:=by simp
  have c1:((0:Int)≤(pre.length:Int))=True:=eq_true zq0
  have c2:((pre.length:Int)<0)=False:=eq_false zq0
  have c3:((pre.length:Int)≤((pre++[(a,())]).length:Int))=True:=eq_true zq2
  have c4:(((pre++[(a,())]).length:Int)≤((pre++[(a,())]).length:Int))=True:=eq_true (Int.le_refl _)
  have c5:(pre.length≤4294967296)=True:=eq_true zq0
  have c6:(pre.length+1≤4294967296)=True:=eq_true zq0
  have i0:idx (pre++[(a,())]) (pre.length:Int)=some (a,()):=Bb zq3
  simp only[e1,e2,e3,c2,eq_false hn,decide_false,Aj]
  have hp:Az x ([(a,())],()) (seen,()) (known,())=some ((Hj a Oa,()),(true,())):=by
   unfold Az Bp
   simp only[Ad,Ae,Ac,hk,show((9:Int)==(1:Int))=false from rfl,show((9:Int)==(2:Int))=false from rfl,show((9:Int)==(3:Int))=false from rfl,show((9:Int)==(4:Int))=false from rfl,show((9:Int)==(5:Int))=false from rfl,show((9:Int)==(6:Int))=false from rfl,show((9:Int)==(7:Int))=false from rfl,show((9:Int)==(8:Int))=false from rfl,show((9:Int)==(9:Int))=true from rfl,show((9:Int)==(10:Int))=false from rfl,Ap,Aj,show idx [(a,())] (0:Int)=some (a,())from rfl,Ag,Rs]
  simp only[hp,hk,show((9:Int)==(1:Int))=false from rfl,show((9:Int)==(2:Int))=false from rfl,show((9:Int)==(3:Int))=false from rfl,show((9:Int)==(4:Int))=false from rfl,show((9:Int)==(5:Int))=false from rfl,show((9:Int)==(6:Int))=false from rfl,show((9:Int)==(7:Int))=false from rfl,show((9:Int)==(8:Int))=false from rfl,show((9:Int)==(9:Int))=true from rfl,show((9:Int)==(10:Int))=false from rfl,Ap,Aj,Ag,Bool.not_true,List.length_nil,Nat.zero_add,List.nil_append,List.length_cons,e0,e1,e2,e3,c1,c3,c4,c5,c6,i0,decide_true,Ar,Aho]
  exact fin pre (Hj a Oa) zq0 hpb
 ·
  have hop:Br (x.1,())=some ((3:Int),()):=by rw[hk];rfl
  have hop2:Bq (x.1,())=some ((3:Int),()):=by rw[hk];rfl
  simp only[hop,hop2,Ag]
  by_cases hn:(st.length:Int)<3
  case pos=>
   have hn2:(IntKind.i64.wrap ((st.length:Int)-3)<0)=True:=eq_true (by rw[w64 zq0];omega)
   simp only[hn2,eq_true hn,decide_true,Ap]
   exact nope
  obtain⟨pre,a,b,c,hs⟩:=Alb st zq0
  subst hs
  have hpl:pre.length+3≤8:=by simpa using hst
  have hpb: ∀y∈pre,y.1.length≤200:=fun y hy=>hb y (List.mem_append.2 (.inl hy))
  have hla:a.length≤200:=hb (a,()) zq3
  have hlb:b.length≤200:=hb (b,()) zq3
  have hlc:c.length≤200:=hb (c,()) zq3
  have e1:IntKind.i64.wrap (((pre++[(a,()),(b,()),(c,())]).length:Int)-3)=(pre.length:Int):=by rw[w64 zq2];simp only[List.length_append,List.length_cons,List.length_nil];omega
  have e2:((pre++[(a,()),(b,()),(c,())]).take (((pre++[(a,()),(b,()),(c,())]).length:Int)).toNat).drop ((pre.length:Int)).toNat=[(a,()),(b,()),(c,())]:=by rw[Int.toNat_natCast,Int.toNat_natCast,List.take_length,List.drop_left]
  have e3:((pre++[(a,()),(b,()),(c,())]).take ((pre.length:Int)).toNat).drop (0:Int).toNat=pre:=by simp
  have c1:((0:Int)≤(pre.length:Int))=True:=eq_true zq0
  have c2:((pre.length:Int)<0)=False:=eq_false zq0
  have c3:((pre.length:Int)≤((pre++[(a,()),(b,()),(c,())]).length:Int))=True:=eq_true zq2
  have c4:(((pre++[(a,()),(b,()),(c,())]).length:Int)≤((pre++[(a,()),(b,()),(c,())]).length:Int))=True:=eq_true (Int.le_refl _)
  have c5:(pre.length≤4294967296)=True:=eq_true zq0
  have c6:(pre.length+1≤4294967296)=True:=eq_true zq0
  have i0:idx (pre++[(a,()),(b,()),(c,())]) (pre.length:Int)=some (a,()):=Bb zq3
  have i1:idx (pre++[(a,()),(b,()),(c,())]) (IntKind.i64.wrap ((pre.length:Int)+1))=some (b,()):=by rw[w64 zq0];exact Bb (i:=pre.length+1) zq3
  have i2:idx (pre++[(a,()),(b,()),(c,())]) (IntKind.i64.wrap ((pre.length:Int)+2))=some (c,()):=by rw[w64 zq0];exact Bb (i:=pre.length+2) zq3
  simp only[e1,e2,e3,c2,eq_false hn,decide_false,Aj]
  have hp:Az x ([(a,()),(b,()),(c,())],()) (seen,()) (known,())=some ((mix a b c,()),(true,())):=by
   unfold Az Bp
   simp only[Ad,Ae,Ac,hk,show((10:Int)==(1:Int))=false from rfl,show((10:Int)==(2:Int))=false from rfl,show((10:Int)==(3:Int))=false from rfl,show((10:Int)==(4:Int))=false from rfl,show((10:Int)==(5:Int))=false from rfl,show((10:Int)==(6:Int))=false from rfl,show((10:Int)==(7:Int))=false from rfl,show((10:Int)==(8:Int))=false from rfl,show((10:Int)==(9:Int))=false from rfl,show((10:Int)==(10:Int))=true from rfl,Ap,Aj,show idx [(a,()),(b,()),(c,())] (0:Int)=some (a,())from rfl,show idx [(a,()),(b,()),(c,())] (1:Int)=some (b,())from rfl,show idx [(a,()),(b,()),(c,())] (2:Int)=some (c,())from rfl,Ag,Al5]
  simp only[hp,hk,show((10:Int)==(1:Int))=false from rfl,show((10:Int)==(2:Int))=false from rfl,show((10:Int)==(3:Int))=false from rfl,show((10:Int)==(4:Int))=false from rfl,show((10:Int)==(5:Int))=false from rfl,show((10:Int)==(6:Int))=false from rfl,show((10:Int)==(7:Int))=false from rfl,show((10:Int)==(8:Int))=false from rfl,show((10:Int)==(9:Int))=false from rfl,show((10:Int)==(10:Int))=true from rfl,Ap,Aj,Ag,Bool.not_true,List.length_nil,Nat.zero_add,List.nil_append,List.length_cons,e0,e1,e2,e3,c1,c3,c4,c5,c6,i0,i1,i2,decide_true,Ar,Al6]
  exact fin pre (mix a b c) zq0 hpb
end
end Go.Proofs.Ytmhhajdeafijmaa

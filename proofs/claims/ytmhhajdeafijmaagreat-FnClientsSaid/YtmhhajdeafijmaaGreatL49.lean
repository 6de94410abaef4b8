/-
  That the program and the reference answer alike, in plain terms, and that the laws answer true.
-/
import Derived.Test.YtmhhajdeafijmaaGreatL48
namespace Go.Proofs.YtmhhajdeafijmaaGreat
open Go.RowKit
set_option linter.unusedVariables false
set_option linter.unusedSimpArgs false
set_option maxRecDepth 100000
set_option maxHeartbeats 8000000
noncomputable section
theorem As5 {n lo hi:Int} (h: ¬(lo≤n∧n≤hi)):inR n lo hi=false:=by
 cases e:inR n lo hi with
 |false=>rfl
 |true=>exact absurd (Bt.1 e) h
theorem Abj (a:YBs):Fi a a=some (true,()):=by
 unfold Fi Ap4
 simp only[Af,decide_true]
theorem Ax0 (a:(List YI)×Unit) (h:a.1.length≤4294967296):Zn a a=some (true,()):=by
 have e:=Cv (B:=Gq) a.1.length (fun i=>(a.1,a.1,(i:Int),())) (.inr ())
  (fun i hi=>by
   have hx:=List.getElem?_eq_getElem hi
   unfold Gq
   simp only[Aj,Al,Af,O9 hi,Az,Di hx,An,bne_self_eq_false,Aw]
   rw[w64 zq0]
   rfl)
  (by unfold Gq;simp only[Aj,Af,Pa,Aw])
 unfold Zn Zm
 simp only[Aj,Al,Af,Sj,bne_self_eq_false,Aw]
 rw[show A1 Gq (a.1,a.1,(0:Int),())=_ from e]
 rfl
theorem A0b (a:Bs) (h:Ds a≤4294967296):Acz a a=some (true,()):=by
 unfold Acz Acy
 simp only[Aj,Al,Af,beq_self_eq_true,Az]
 rw[Ax0 _ (by simp only[Ds]at h;dsimp only;omega),An]
theorem Ao7 (a:YEp) (h:Bp a≤4294967296):Wo a a=some (true,()):=by
 unfold Wo Ahm
 simp only[Aj,Al,Af,beq_self_eq_true,Az,Abj,An]
 rw[A0b _ (by simp only[Bp,Ds]at*;omega),An]
theorem Ax1 (a:Ai) (h:A0 a≤4294967296):Zp a a=some (true,()):=by
 unfold Zp Zo
 simp only[Aj,Al,Af,beq_self_eq_true,Az,Abj,An]
 rw[Ao7 _ (by simp only[A0,Bp]at*;omega)]
 simp only[An,Az]
 rw[Ao7 _ (by simp only[A0,Bp]at*;omega)]
 simp only[An,Az]
theorem Auv (a:Ab):Tc a a=some (true,()):=by
 unfold Tc Tb
 simp only[Aj,Al,Af,beq_self_eq_true,Az,Abj,An]
theorem As6 (a:Ac) (h:Ao a≤4294967296):Gr a a=some (true,()):=by
 unfold Gr Qn
 simp only[Aj,Al,Af,beq_self_eq_true,Az,Abj,An,Auv]
 rw[Ax1 _ (Nat.le_trans (Abh a) zq0)]
 simp only[An,Az,Bool.and_true]
theorem A8j (b:List YB) (n:Int):Md (b,()) (n,())=some (W6 b n,()):=by
 unfold Md Ac0 W6
 simp only[Aj,Af]
 cases ((b.length:Int)==0)<;>rfl
theorem Bds (x y:Bool):br x (some (y,())) (some (false,()))=some (x && y,()):=by cases x<;>rfl
theorem A91 (n:Ah):Aho n=some (Hg n,()):=by
 unfold Aho Ahn Hg
 simp only[Aj,Al,Af,Ch,A8j,Azb,An,Bds]
theorem A5x (l:List Ab) (h:Air l) (hl:l.length≤4294967296):Oo (l,())=some (true,()):=by
 have e:=Cv (B:=Gs) l.length (fun i=>(l,(i:Int),())) (.inr ())
  (fun i hi=>by
   have hx:=List.getElem?_eq_getElem hi
   unfold Gs
   simp only[Aj,Al,Af,O9 hi,Az,Di hx,An,La,h _ (List.getElem_mem hi),Bool.not_true,Aw]
   rw[w64 zq0]
   rfl)
  (by unfold Gs;simp only[Aj,Af,Pa,Aw])
 unfold Oo Zq
 simp only[Aj,Al,Af,Sj]
 rw[show A1 Gs (l,(0:Int),())=_ from e]
 rfl
theorem A8k (l:List Ah) (h:E8 l) (hl:l.length≤4294967296):Rh (l,())=some (true,()):=by
 have e:=Cv (B:=Hp) l.length (fun i=>(l,(i:Int),())) (.inr ())
  (fun i hi=>by
   have hx:=List.getElem?_eq_getElem hi
   unfold Hp
   simp only[Aj,Al,Af,O9 hi,Az,Di hx,An,A91,h _ (List.getElem_mem hi),Bool.not_true,Aw]
   rw[w64 zq0]
   rfl)
  (by unfold Hp;simp only[Aj,Af,Pa,Aw])
 unfold Rh Ac1
 simp only[Aj,Al,Af,Sj]
 rw[show A1 Hp (l,(0:Int),())=_ from e]
 rfl
theorem A8l (c:Ac) (n:YI) (f:Ab) (hc:Ao c≤8388608) (h:Bw c=false∨inR n.1 0 1000000=false):Iu c n f=some (c,(([]:List Ab),()),(([]:List Ah),())):=by
 unfold Iu Lv
 simp only[Aj,Al,Af,Aq]
 rw[Pi c zq0,Wy c zq0,Ch]
 simp only[An]
 cases ho:Bw c with
 |false=>rfl
 |true=>
  rcases h with h|h
  ·rw[ho]at h;cases h
  ·rw[h];rfl
theorem A2v (a:YBs):Ajk a=some (true,()):=by
 unfold Ajk Jx
 simp only[Al,Aj,Af]
 rw[show A25 a=some (decide ((a.1.length:Int)>(1048576:Int)),())from rfl,An]
 by_cases hb:(a.1.length:Int)>1048576
 ·rw[Ap hb,Az]
 rw[Bg hb,Aw]
 obtain⟨⟨c,n,f⟩,e,h1,h2,h3,h4⟩:=Aml a zq0
 dsimp only at h1 h2 h3 h4
 obtain⟨r,fs,ns,g1,_,k1,k2,k3,k4,k5,k6,k7,k8,k9,k10,k11,k12⟩:=Ajv c n f zq0 zq0 h4 h2
 rw[e,An]
 dsimp only
 rw[g1,An,Wy c zq0,Ail c]
 simp only[An,beq_self_eq_true,Bool.not_true,Aw]
 have none:Bw c=false∨inR n.1 0 1000000=false→r=c∧fs=[]∧ns=[]:=fun h=>by
  rw[A8l c n f zq0 h]at g1
  simp only[Option.some.injEq,Prod.mk.injEq,and_true]at g1
  exact⟨g1.1.symm,g1.2.1.symm,g1.2.2.symm⟩
 have hsame:=As6 c zq0
 cases ho:Bw c with
 |false=>
  obtain⟨rfl,rfl,rfl⟩:=none (.inl ho)
  simp only[Bool.not_false,Az,hsame,An]
  rfl
 |true=>
 simp only[Bool.not_true,Aw]
 by_cases q1:n.1<0
 ·obtain⟨rfl,rfl,rfl⟩:=none (.inr (As5 zq0))
  rw[Ap q1,Az]
  simp only[hsame,An,Az]
  rfl
 rw[Bg q1,Aw]
 by_cases q2:n.1>1000000
 ·obtain⟨rfl,rfl,rfl⟩:=none (.inr (As5 zq0))
  rw[Ap q2,Az]
  simp only[hsame,An,Az]
  rfl
 rw[Bg q2,Aw,Wy r zq0,k9 ho,A5x fs k10 zq0,A8k ns k11 zq0,k6,k7,k8]
 simp only[An,Az,beq_self_eq_true,Bool.and_true,Ap (show(fs.length:Int)≤1 by omega)]
 cases hn:((ns.length:Int)==(0:Int))with
 |false=>rfl
 |true=>
  have:ns=[]:=List.eq_nil_of_length_eq_zero (by have:=eq_of_beq hn;omega)
  obtain⟨rfl,rfl⟩:=k4 this
  rw[hsame]
  rfl
end
end Go.Proofs.YtmhhajdeafijmaaGreat

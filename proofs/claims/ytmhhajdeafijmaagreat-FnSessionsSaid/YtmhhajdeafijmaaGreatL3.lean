/-
  That the program and the reference answer alike, in plain terms, and that the laws answer true.
-/
import Derived.Test.YtmhhajdeafijmaaGreatL2
namespace Go.Proofs.YtmhhajdeafijmaaGreat
open Go.RowKit
set_option linter.unusedVariables false
set_option linter.unusedSimpArgs false
set_option maxHeartbeats 4000000
noncomputable section
def eqA (a b c d:Int):Bool:=and (a==c) (and (b==d) true)
def Nj (at1 at2:Int) (l:List Al) (i:Nat) (x:Al):Bool:=
 !(Du (x.1,x.2.1,()) && (!eqA x.1 x.2.1 at1 at2 && (((x.2.2.1.length:Int)==12) && (inR x.2.2.2.1 0 1000006 && Hj (fun _ y=>eqA y.1 y.2.1 x.1 x.2.1) (l.take i)))))
def Ct (p:A9):Bool:=Du (p.1,p.2.1,()) && (!decide ((p.2.2.1.length:Int)>3) && Hj (Nj p.1 p.2.1 p.2.2.1) p.2.2.1)
theorem A4x (l0:List Al) (n:Int) (i:Nat) (m:List Al) (hm:m.length≤4294967296) (a b:Int) (l:List Al) (x:Al):
  Ay G3 (l0,n,(i:Int),m,(m.length:Int),(0:Int),a,b,l,x.1,x.2.1,x.2.2.1,x.2.2.2.1,())=some (bif Hj (fun _ y=>eqA y.1 y.2.1 x.1 x.2.1) m then .inr (l0,n,(i:Int),a,b,l,())else .inl (false,())):=by
 have h:=Kb (B:=G3) m (fun j=>(l0,n,(i:Int),m,(m.length:Int),(j:Int),a,b,l,x.1,x.2.1,x.2.2.1,x.2.2.2.1,())) (fun _ y=>eqA y.1 y.2.1 x.1 x.2.1) (false,()) (l0,n,(i:Int),a,b,l,())
  (fun j y hj hy=>by
   unfold G3
   simp (disch:=omega) only[Ae,Ai,Ac,Et hj,A0,Cb hy,Ag,w64]
   rfl)
  (by unfold G3;simp only[Ae,Ac,Eu,An])
 rw[show((0:Int))=((0:Nat):Int)from rfl,h]
theorem A4y (i:Nat) (a b:Int) (l:List Al) (hi:i≤l.length) (hl:l.length≤4294967296) (x:Al):
  Ay F3 ((i:Int),(0:Int),a,b,l,x.1,x.2.1,x.2.2.1,x.2.2.2.1,())=some (bif Hj (fun _ y=>eqA y.1 y.2.1 x.1 x.2.1) (l.take i)then .inr ((i:Int),a,b,l,())else .inl (false,())):=by
 have hlen:(l.take i).length=i:=by simp;omega
 have h:=Kb (B:=F3) (l.take i) (fun j=>((i:Int),(j:Int),a,b,l,x.1,x.2.1,x.2.2.1,x.2.2.2.1,())) (fun _ y=>eqA y.1 y.2.1 x.1 x.2.1) (false,()) ((i:Int),a,b,l,())
  (fun j y hj hy=>by
   have hy2:l[j]? =some y:=by rw[List.getElem?_take]at hy;split at hy;exact hy;cases hy
   unfold F3
   simp (disch:=omega) only[Ae,Ai,Ac,Et (show j<i by omega),A0,Cb hy2,Ag,w64]
   rfl)
  (by unfold F3;rw[hlen];simp only[Ae,Ac,Eu,An])
 rw[show((0:Int))=((0:Nat):Int)from rfl,h]
theorem Kc (p:A9) (hl:p.2.2.1.length≤4294967296):Lp p=some (Ct p,()):=by
 obtain⟨a,b,l,_⟩:=p
 simp only at hl
 have h:=Kb (B:=Il) l (fun i=>(l,(l.length:Int),(i:Int),a,b,l,())) (Nj a b l) (false,()) ()
  (fun i x hi hx=>by
   have hlen:(l.take i).length≤4294967296:=by simp;omega
   unfold Il
   simp only[Ae,Ai,Ac,Ak,Hb,Et hi,A0,Cb hx,Ag,Kq,Hp,Cj,Int.toNat_natCast,Int.toNat_zero,List.drop_zero]
   rw[A4x l _ i _ hlen]
   unfold Nj
   rw[Am zq0,Am zq0]
   simp only[Ba,eqA,Ag]
   cases Du (x.1,x.2.1,())<;>cases (and (x.1==a) (and (x.2.1==b) true))<;>cases ((x.2.2.1.length:Int)==12)<;>cases inR x.2.2.2.1 0 1000006<;>cases Hj (fun _ (y:Al)=>and (y.1==x.1) (and (y.2.1==x.2.1) true)) (l.take i)<;>first|rfl|(simp only[cond_true,Asg,br,Bool.not_true];rw[w64 zq0];rfl))
  (by unfold Il;simp only[Ae,Ac,Eu,An])
 unfold Lp Tl Ct
 simp only[Ae,Ai,Ac,Hb,Kq,Ag]
 rw[show((0:Int))=((0:Nat):Int)from rfl,h]
 cases Du (a,b,())<;>cases decide ((l.length:Int)>3)<;>cases Hj (Nj a b l) l<;>rfl
theorem Zy (p:A9) (hl:p.2.2.1.length≤4294967296):Lm p=some (Ct p,()):=by
 obtain⟨a,b,l,_⟩:=p
 simp only at hl
 have h:=Kb (B:=Ig) l (fun i=>((i:Int),a,b,l,())) (Nj a b l) (false,()) ()
  (fun i x hi hx=>by
   unfold Ig
   simp only[Ae,Ai,Ac,Ak,Hb,Et hi,A0,Cb hx,Ag,Sp,Cz]
   rw[A4y i a b l zq0 hl]
   unfold Nj
   simp only[Ag,eqA,bne]
   cases Du (x.1,x.2.1,())<;>cases (and (x.1==a) (and (x.2.1==b) true))<;>cases ((x.2.2.1.length:Int)==12)<;>cases inR x.2.2.2.1 0 1000006<;>cases Hj (fun _ (y:Al)=>and (y.1==x.1) (and (y.2.1==x.2.1) true)) (l.take i)<;>first|rfl|(simp only[cond_true,Asg,br,Bool.not_true];rw[w64 zq0];rfl))
  (by unfold Ig;simp only[Ae,Ac,Eu,An])
 unfold Lm Th Ct
 simp only[Ae,Ai,Ac,Hb,Sp,Ag]
 rw[show((0:Int))=((0:Nat):Int)from rfl,h]
 cases Du (a,b,())<;>cases decide ((l.length:Int)>3)<;>cases Hj (Nj a b l) l<;>rfl
abbrev Ck (s:Bd):Aj:=(s.2.2.2.1,s.2.2.2.2.1,s.2.2.2.2.2.1,s.2.2.2.2.2.2.1,s.2.2.2.2.2.2.2.1,s.2.2.2.2.2.2.2.2.1,s.2.2.2.2.2.2.2.2.2.1,s.2.2.2.2.2.2.2.2.2.2.1,s.2.2.2.2.2.2.2.2.2.2.2.1,s.2.2.2.2.2.2.2.2.2.2.2.2.1,s.2.2.2.2.2.2.2.2.2.2.2.2.2.1,s.2.2.2.2.2.2.2.2.2.2.2.2.2.2.1,s.2.2.2.2.2.2.2.2.2.2.2.2.2.2.2.1,s.2.2.2.2.2.2.2.2.2.2.2.2.2.2.2.2.1,s.2.2.2.2.2.2.2.2.2.2.2.2.2.2.2.2.2.1,())
abbrev A5 (s:Bd):A9:=(s.2.2.2.2.2.2.2.2.2.2.2.2.2.2.2.2.2.2.1,s.2.2.2.2.2.2.2.2.2.2.2.2.2.2.2.2.2.2.2.1,s.2.2.2.2.2.2.2.2.2.2.2.2.2.2.2.2.2.2.2.2.1,())
abbrev Aqb (s:Bd):Int:=s.2.2.2.2.2.2.2.2.2.2.2.2.2.2.2.2.2.2.2.2.2.1
abbrev Rf (s:Bd):Int:=s.2.2.2.2.2.2.2.2.2.2.2.2.2.2.2.2.2.2.2.2.2.2.1
abbrev Lc (s:Bd):Bool:=s.2.2.2.2.2.2.2.2.2.2.2.2.2.2.2.2.2.2.2.2.2.2.2.1
def Fq (s:Bd):Bool:=
 inR s.1 1 9 && (((s.2.1.length:Int)==12) && (((s.2.2.1.length:Int)==12) && (inR (Aqb s) 0 1000000 &&
  (bif Lc s then Aqa (Ck s) && (eqA (A5 s).1 (A5 s).2.1 0 0 && ((((A5 s).2.2.1.length:Int)==0) && (Rf s==0)))
  else Bt (Ck s) && ((s.2.2.2.1==1) && (Ez s.2.2.2.2.1 s.2.2.1 && (Ct (A5 s) && inR (Rf s) 0 1000000)))))))
theorem Afu (s:Bd) (h:Bw s≤4294967296):Q4 s=some (Fq s,()):=by
 have hn:Bw s=_:=rfl
 unfold Q4 Aem Fq
 simp only[Bw]at h
 rw[Mp _ zq2 zq2,Kc _ zq2]
 simp only[Ae,Ai,Ac,Cj,Hp,Aw3,Oa,Ag,Vs,Bool.cond_false_right,Bool.cond_true_left,Bool.cond_false_left,eqA,Bool.not_not]
theorem A8r:G4 ((-1:Int),())=some ((0:Int),(0:Int),()):=by
 unfold G4 We
 simp only[Ae,Ai,Ac,Cz,Ag]
 rfl
theorem A64 (s:Bd) (h:Bw s≤4294967296):Afq s=some (Fq s,()):=by
 unfold Afq Ap5 Fq
 simp only[Bw]at h
 rw[Zy _ zq2]
 simp only[Ae,Ai,Ac,Cz,Az3,Xi,Mq,A8r,Ag,Vs,Bool.cond_false_right,Bool.cond_true_left,Bool.cond_false_left,eqA,Bool.not_not]
 refine congrArg (fun b=>some (b,())) ?_
 cases hd:Lc s with
 |true=>
  cases hl:Rf s==0 with
  |false=>simp[hd,hl,bne]
  |true=>
   have e:inR (Rf s) 0 1000000=true:=by simp at hl;simp[inR,hl]
   simp[hd,hl,bne,e]
 |false=>
  cases hl:inR (Rf s) 0 1000000 with
  |false=>simp[hd,hl,bne]
  |true=>simp[hd,hl,bne]
end
end Go.Proofs.YtmhhajdeafijmaaGreat

/-
  That the program and the reference answer alike, in plain terms, and that the laws answer true.
-/
import Derived.Test.YtfljmgnghlpapaaGreatL2
namespace Go.Proofs.YtfljmgnghlpapaaGreat
open Go.RowKit
set_option linter.unusedVariables false
set_option linter.unusedSimpArgs false
set_option maxHeartbeats 4000000
noncomputable section
def eqA (a b c d:Int):Bool:=and (a==c) (and (b==d) true)
def Ji (at1 at2:Int) (l:List Aj) (i:Nat) (x:Aj):Bool:=
 !(G8 (x.1,x.2.1,()) && (!eqA x.1 x.2.1 at1 at2 && (((x.2.2.1.length:Int)==12) && (inR x.2.2.2.1 0 1000006 && Dk (fun _ y=>eqA y.1 y.2.1 x.1 x.2.1) (l.take i)))))
def Cz (p:A4):Bool:=G8 (p.1,p.2.1,()) && (!decide ((p.2.2.1.length:Int)>3) && Dk (Ji p.1 p.2.1 p.2.2.1) p.2.2.1)
theorem Auu (l0:List Aj) (n:Int) (i:Nat) (m:List Aj) (hm:m.length≤4294967296) (a b:Int) (l:List Aj) (x:Aj):
  As Fb (l0,n,(i:Int),m,(m.length:Int),(0:Int),a,b,l,x.1,x.2.1,x.2.2.1,x.2.2.2.1,())=some (bif Dk (fun _ y=>eqA y.1 y.2.1 x.1 x.2.1) m then .inr (l0,n,(i:Int),a,b,l,())else .inl (false,())):=by
 have h:=Fk (B:=Fb) m (fun j=>(l0,n,(i:Int),m,(m.length:Int),(j:Int),a,b,l,x.1,x.2.1,x.2.2.1,x.2.2.2.1,())) (fun _ y=>eqA y.1 y.2.1 x.1 x.2.1) (false,()) (l0,n,(i:Int),a,b,l,())
  (fun j y hj hy=>by
   unfold Fb
   simp (disch:=omega) only[Ah,Ai,Ab,Db hj,A9,B7 hy,Ak,w64]
   rfl)
  (by unfold Fb;simp only[Ah,Ab,Dc,A1])
 rw[show((0:Int))=((0:Nat):Int)from rfl,h]
theorem Auv (i:Nat) (a b:Int) (l:List Aj) (hi:i≤l.length) (hl:l.length≤4294967296) (x:Aj):
  As Em ((i:Int),(0:Int),a,b,l,x.1,x.2.1,x.2.2.1,x.2.2.2.1,())=some (bif Dk (fun _ y=>eqA y.1 y.2.1 x.1 x.2.1) (l.take i)then .inr ((i:Int),a,b,l,())else .inl (false,())):=by
 have hlen:(l.take i).length=i:=by simp;omega
 have h:=Fk (B:=Em) (l.take i) (fun j=>((i:Int),(j:Int),a,b,l,x.1,x.2.1,x.2.2.1,x.2.2.2.1,())) (fun _ y=>eqA y.1 y.2.1 x.1 x.2.1) (false,()) ((i:Int),a,b,l,())
  (fun j y hj hy=>by
   have hy2:l[j]? =some y:=by rw[List.getElem?_take]at hy;split at hy;exact hy;cases hy
   unfold Em
   simp (disch:=omega) only[Ah,Ai,Ab,Db (show j<i by omega),A9,B7 hy2,Ak,w64]
   rfl)
  (by unfold Em;rw[hlen];simp only[Ah,Ab,Dc,A1])
 rw[show((0:Int))=((0:Nat):Int)from rfl,h]
theorem Acl (p:A4) (hl:p.2.2.1.length≤4294967296):Kb p=some (Cz p,()):=by
 obtain⟨a,b,l,_⟩:=p
 simp only at hl
 have h:=Fk (B:=F6) l (fun i=>(l,(l.length:Int),(i:Int),a,b,l,())) (Ji a b l) (false,()) ()
  (fun i x hi hx=>by
   have hlen:(l.take i).length≤4294967296:=by simp;omega
   unfold F6
   simp only[Ah,Ai,Ab,Am,Ej,Db hi,A9,B7 hx,Ak,Afx,S8,D0,Int.toNat_natCast,Int.toNat_zero,List.drop_zero]
   rw[Auu l _ i _ hlen]
   unfold Ji
   rw[Ao zq0,Ao zq0]
   simp only[Bd,eqA,Ak]
   cases G8 (x.1,x.2.1,())<;>cases (and (x.1==a) (and (x.2.1==b) true))<;>cases ((x.2.2.1.length:Int)==12)<;>cases inR x.2.2.2.1 0 1000006<;>cases Dk (fun _ (y:Aj)=>and (y.1==x.1) (and (y.2.1==x.2.1) true)) (l.take i)<;>first|rfl|(simp only[cond_true,Anv,br,Bool.not_true];rw[w64 zq0];rfl))
  (by unfold F6;simp only[Ah,Ab,Dc,A1])
 unfold Kb N0 Cz
 simp only[Ah,Ai,Ab,Ej,Afx,Ak]
 rw[show((0:Int))=((0:Nat):Int)from rfl,h]
 cases G8 (a,b,())<;>cases decide ((l.length:Int)>3)<;>cases Dk (Ji a b l) l<;>rfl
theorem Acm (p:A4) (hl:p.2.2.1.length≤4294967296):J5 p=some (Cz p,()):=by
 obtain⟨a,b,l,_⟩:=p
 simp only at hl
 have h:=Fk (B:=F2) l (fun i=>((i:Int),a,b,l,())) (Ji a b l) (false,()) ()
  (fun i x hi hx=>by
   unfold F2
   simp only[Ah,Ai,Ab,Am,Ej,Db hi,A9,B7 hx,Ak,X3,Dd]
   rw[Auv i a b l zq0 hl]
   unfold Ji
   simp only[Ak,eqA,bne]
   cases G8 (x.1,x.2.1,())<;>cases (and (x.1==a) (and (x.2.1==b) true))<;>cases ((x.2.2.1.length:Int)==12)<;>cases inR x.2.2.2.1 0 1000006<;>cases Dk (fun _ (y:Aj)=>and (y.1==x.1) (and (y.2.1==x.2.1) true)) (l.take i)<;>first|rfl|(simp only[cond_true,Anv,br,Bool.not_true];rw[w64 zq0];rfl))
  (by unfold F2;simp only[Ah,Ab,Dc,A1])
 unfold J5 Nv Cz
 simp only[Ah,Ai,Ab,Ej,X3,Ak]
 rw[show((0:Int))=((0:Nat):Int)from rfl,h]
 cases G8 (a,b,())<;>cases decide ((l.length:Int)>3)<;>cases Dk (Ji a b l) l<;>rfl
abbrev Ek (s:Af):Bl:=(s.2.2.2.1,s.2.2.2.2.1,s.2.2.2.2.2.1,s.2.2.2.2.2.2.1,s.2.2.2.2.2.2.2.1,s.2.2.2.2.2.2.2.2.1,s.2.2.2.2.2.2.2.2.2.1,s.2.2.2.2.2.2.2.2.2.2.1,s.2.2.2.2.2.2.2.2.2.2.2.1,s.2.2.2.2.2.2.2.2.2.2.2.2.1,s.2.2.2.2.2.2.2.2.2.2.2.2.2.1,s.2.2.2.2.2.2.2.2.2.2.2.2.2.2.1,s.2.2.2.2.2.2.2.2.2.2.2.2.2.2.2.1,s.2.2.2.2.2.2.2.2.2.2.2.2.2.2.2.2.1,s.2.2.2.2.2.2.2.2.2.2.2.2.2.2.2.2.2.1,())
abbrev Dq (s:Af):A4:=(s.2.2.2.2.2.2.2.2.2.2.2.2.2.2.2.2.2.2.1,s.2.2.2.2.2.2.2.2.2.2.2.2.2.2.2.2.2.2.2.1,s.2.2.2.2.2.2.2.2.2.2.2.2.2.2.2.2.2.2.2.2.1,())
abbrev Rt (s:Af):Int:=s.2.2.2.2.2.2.2.2.2.2.2.2.2.2.2.2.2.2.2.2.2.1
abbrev Ml (s:Af):Int:=s.2.2.2.2.2.2.2.2.2.2.2.2.2.2.2.2.2.2.2.2.2.2.1
abbrev Do (s:Af):Bool:=s.2.2.2.2.2.2.2.2.2.2.2.2.2.2.2.2.2.2.2.2.2.2.2.1
def C6 (s:Af):Bool:=
 inR s.1 1 9 && (((s.2.1.length:Int)==12) && (((s.2.2.1.length:Int)==12) && (inR (Rt s) 0 1000000 &&
  (bif Do s then Ahw (Ek s) && (eqA (Dq s).1 (Dq s).2.1 0 0 && ((((Dq s).2.2.1.length:Int)==0) && (Ml s==0)))
  else H0 (Ek s) && ((s.2.2.2.1==1) && (D7 s.2.2.2.2.1 s.2.2.1 && (Cz (Dq s) && inR (Ml s) 0 1000000)))))))
theorem Ru (s:Af) (h:Az s≤4294967296):Jf s=some (C6 s,()):=by
 have hn:Az s=_:=rfl
 unfold Jf Xj C6
 simp only[Az]at h
 rw[Anx _ zq2 zq2,Acl _ zq2]
 simp only[Ah,Ai,Ab,D0,S8,Anw,U7,Ak,X1,Bool.cond_false_right,Bool.cond_true_left,Bool.cond_false_left,eqA,Bool.not_not]
theorem Ayg:Hn ((-1:Int),())=some ((0:Int),(0:Int),()):=by
 unfold Hn Wk
 simp only[Ah,Ai,Ab,Dd,Ak]
 rfl
theorem Afy (s:Af) (h:Az s≤4294967296):L6 s=some (C6 s,()):=by
 unfold L6 Wz C6
 simp only[Az]at h
 rw[Acm _ zq2]
 simp only[Ah,Ai,Ab,Dd,Aqk,Ant,Awk,Ayg,Ak,X1,Bool.cond_false_right,Bool.cond_true_left,Bool.cond_false_left,eqA,Bool.not_not]
 refine congrArg (fun b=>some (b,())) ?_
 cases hd:Do s with
 |true=>
  cases hl:Ml s==0 with
  |false=>simp[hd,hl,bne]
  |true=>
   have e:inR (Ml s) 0 1000000=true:=by simp at hl;simp[inR,hl]
   simp[hd,hl,bne,e]
 |false=>
  cases hl:inR (Ml s) 0 1000000 with
  |false=>simp[hd,hl,bne]
  |true=>simp[hd,hl,bne]
end
end Go.Proofs.YtfljmgnghlpapaaGreat

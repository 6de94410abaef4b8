/-
  That the program and the reference answer alike, in plain terms, and that the laws answer true.
-/
import Derived.Test.YtmhhajdeafijmaaGreatL2
namespace Go.Proofs.YtmhhajdeafijmaaGreat
open Go.RowKit
set_option linter.unusedVariables false
set_option linter.unusedSimpArgs false
set_option maxHeartbeats 4000000
noncomputable section
def eqA (a b c d:Int):Bool:=and (a==c) (and (b==d) true)
def Mt (at1 at2:Int) (l:List Am) (i:Nat) (x:Am):Bool:=
 !(Id (x.1,x.2.1,()) && (!eqA x.1 x.2.1 at1 at2 && (((x.2.2.1.length:Int)==12) && (inR x.2.2.2.1 0 1000006 && G3 (fun _ y=>eqA y.1 y.2.1 x.1 x.2.1) (l.take i)))))
def Fv (p:A7):Bool:=Id (p.1,p.2.1,()) && (!decide ((p.2.2.1.length:Int)>3) && G3 (Mt p.1 p.2.1 p.2.2.1) p.2.2.1)
theorem A4u (l0:List Am) (n:Int) (i:Nat) (m:List Am) (hm:m.length≤4294967296) (a b:Int) (l:List Am) (x:Am):
  Ay Gm (l0,n,(i:Int),m,(m.length:Int),(0:Int),a,b,l,x.1,x.2.1,x.2.2.1,x.2.2.2.1,())=some (bif G3 (fun _ y=>eqA y.1 y.2.1 x.1 x.2.1) m then .inr (l0,n,(i:Int),a,b,l,())else .inl (false,())):=by
 have h:=Jt (B:=Gm) m (fun j=>(l0,n,(i:Int),m,(m.length:Int),(j:Int),a,b,l,x.1,x.2.1,x.2.2.1,x.2.2.2.1,())) (fun _ y=>eqA y.1 y.2.1 x.1 x.2.1) (false,()) (l0,n,(i:Int),a,b,l,())
  (fun j y hj hy=>by
   unfold Gm
   simp (disch:=omega) only[Af,Ah,Ac,En hj,Az,Ce hy,Ai,w64]
   rfl)
  (by unfold Gm;simp only[Af,Ac,Eo,Ap])
 rw[show((0:Int))=((0:Nat):Int)from rfl,h]
theorem A4v (i:Nat) (a b:Int) (l:List Am) (hi:i≤l.length) (hl:l.length≤4294967296) (x:Am):
  Ay Fr ((i:Int),(0:Int),a,b,l,x.1,x.2.1,x.2.2.1,x.2.2.2.1,())=some (bif G3 (fun _ y=>eqA y.1 y.2.1 x.1 x.2.1) (l.take i)then .inr ((i:Int),a,b,l,())else .inl (false,())):=by
 have hlen:(l.take i).length=i:=by simp;omega
 have h:=Jt (B:=Fr) (l.take i) (fun j=>((i:Int),(j:Int),a,b,l,x.1,x.2.1,x.2.2.1,x.2.2.2.1,())) (fun _ y=>eqA y.1 y.2.1 x.1 x.2.1) (false,()) ((i:Int),a,b,l,())
  (fun j y hj hy=>by
   have hy2:l[j]? =some y:=by rw[List.getElem?_take]at hy;split at hy;exact hy;cases hy
   unfold Fr
   simp (disch:=omega) only[Af,Ah,Ac,En (show j<i by omega),Az,Ce hy2,Ai,w64]
   rfl)
  (by unfold Fr;rw[hlen];simp only[Af,Ac,Eo,Ap])
 rw[show((0:Int))=((0:Nat):Int)from rfl,h]
theorem Ajp (p:A7) (hl:p.2.2.1.length≤4294967296):M8 p=some (Fv p,()):=by
 obtain⟨a,b,l,_⟩:=p
 simp only at hl
 have h:=Jt (B:=H1) l (fun i=>(l,(l.length:Int),(i:Int),a,b,l,())) (Mt a b l) (false,()) ()
  (fun i x hi hx=>by
   have hlen:(l.take i).length≤4294967296:=by simp;omega
   unfold H1
   simp only[Af,Ah,Ac,An,Hp,En hi,Az,Ce hx,Ai,Afn,Ot,C9,Int.toNat_natCast,Int.toNat_zero,List.drop_zero]
   rw[A4u l _ i _ hlen]
   unfold Mt
   rw[Al zq0,Al zq0]
   simp only[A5,eqA,Ai]
   cases Id (x.1,x.2.1,())<;>cases (and (x.1==a) (and (x.2.1==b) true))<;>cases ((x.2.2.1.length:Int)==12)<;>cases inR x.2.2.2.1 0 1000006<;>cases G3 (fun _ (y:Am)=>and (y.1==x.1) (and (y.2.1==x.2.1) true)) (l.take i)<;>first|rfl|(simp only[cond_true,Ask,br,Bool.not_true];rw[w64 zq0];rfl))
  (by unfold H1;simp only[Af,Ac,Eo,Ap])
 unfold M8 Sc Fv
 simp only[Af,Ah,Ac,Hp,Afn,Ai]
 rw[show((0:Int))=((0:Nat):Int)from rfl,h]
 cases Id (a,b,())<;>cases decide ((l.length:Int)>3)<;>cases G3 (Mt a b l) l<;>rfl
theorem X6 (p:A7) (hl:p.2.2.1.length≤4294967296):Kn p=some (Fv p,()):=by
 obtain⟨a,b,l,_⟩:=p
 simp only at hl
 have h:=Jt (B:=Hz) l (fun i=>((i:Int),a,b,l,())) (Mt a b l) (false,()) ()
  (fun i x hi hx=>by
   unfold Hz
   simp only[Af,Ah,Ac,An,Hp,En hi,Az,Ce hx,Ai,W0,C4]
   rw[A4v i a b l zq0 hl]
   unfold Mt
   simp only[Ai,eqA,bne]
   cases Id (x.1,x.2.1,())<;>cases (and (x.1==a) (and (x.2.1==b) true))<;>cases ((x.2.2.1.length:Int)==12)<;>cases inR x.2.2.2.1 0 1000006<;>cases G3 (fun _ (y:Am)=>and (y.1==x.1) (and (y.2.1==x.2.1) true)) (l.take i)<;>first|rfl|(simp only[cond_true,Ask,br,Bool.not_true];rw[w64 zq0];rfl))
  (by unfold Hz;simp only[Af,Ac,Eo,Ap])
 unfold Kn R9 Fv
 simp only[Af,Ah,Ac,Hp,W0,Ai]
 rw[show((0:Int))=((0:Nat):Int)from rfl,h]
 cases Id (a,b,())<;>cases decide ((l.length:Int)>3)<;>cases G3 (Mt a b l) l<;>rfl
abbrev Ew (s:A4):Aj:=(s.2.2.2.1,s.2.2.2.2.1,s.2.2.2.2.2.1,s.2.2.2.2.2.2.1,s.2.2.2.2.2.2.2.1,s.2.2.2.2.2.2.2.2.1,s.2.2.2.2.2.2.2.2.2.1,s.2.2.2.2.2.2.2.2.2.2.1,s.2.2.2.2.2.2.2.2.2.2.2.1,s.2.2.2.2.2.2.2.2.2.2.2.2.1,s.2.2.2.2.2.2.2.2.2.2.2.2.2.1,s.2.2.2.2.2.2.2.2.2.2.2.2.2.2.1,s.2.2.2.2.2.2.2.2.2.2.2.2.2.2.2.1,s.2.2.2.2.2.2.2.2.2.2.2.2.2.2.2.2.1,s.2.2.2.2.2.2.2.2.2.2.2.2.2.2.2.2.2.1,())
abbrev B4 (s:A4):A7:=(s.2.2.2.2.2.2.2.2.2.2.2.2.2.2.2.2.2.2.1,s.2.2.2.2.2.2.2.2.2.2.2.2.2.2.2.2.2.2.2.1,s.2.2.2.2.2.2.2.2.2.2.2.2.2.2.2.2.2.2.2.2.1,())
abbrev A4w (s:A4):Int:=s.2.2.2.2.2.2.2.2.2.2.2.2.2.2.2.2.2.2.2.2.2.1
abbrev Ajq (s:A4):Int:=s.2.2.2.2.2.2.2.2.2.2.2.2.2.2.2.2.2.2.2.2.2.2.1
abbrev Acf (s:A4):Bool:=s.2.2.2.2.2.2.2.2.2.2.2.2.2.2.2.2.2.2.2.2.2.2.2.1
def Hq (s:A4):Bool:=
 inR s.1 1 9 && (((s.2.1.length:Int)==12) && (((s.2.2.1.length:Int)==12) && (inR (A4w s) 0 1000000 &&
  (bif Acf s then Aqh (Ew s) && (eqA (B4 s).1 (B4 s).2.1 0 0 && ((((B4 s).2.2.1.length:Int)==0) && (Ajq s==0)))
  else Ci (Ew s) && ((s.2.2.2.1==1) && (E4 s.2.2.2.2.1 s.2.2.1 && (Fv (B4 s) && inR (Ajq s) 0 1000000)))))))
theorem Lu (s:A4) (h:Bm s≤4294967296):Gx s=some (Hq s,()):=by
 have hn:Bm s=_:=rfl
 unfold Gx Ad6 Hq
 simp only[Bm]at h
 rw[Lr _ zq2 zq2,Ajp _ zq2]
 simp only[Af,Ah,Ac,C9,Ot,Aw4,Kr,Ai,U2,Bool.cond_false_right,Bool.cond_true_left,Bool.cond_false_left,eqA,Bool.not_not]
theorem A8q:Ip ((-1:Int),())=some ((0:Int),(0:Int),()):=by
 unfold Ip Ac4
 simp only[Af,Ah,Ac,C4,Ai]
 rfl
theorem Anz (s:A4) (h:Bm s≤4294967296):Pk s=some (Hq s,()):=by
 unfold Pk Adm Hq
 simp only[Bm]at h
 rw[X6 _ zq2]
 simp only[Af,Ah,Ac,C4,A0a,Wz,Ls,A8q,Ai,U2,Bool.cond_false_right,Bool.cond_true_left,Bool.cond_false_left,eqA,Bool.not_not]
 refine congrArg (fun b=>some (b,())) ?_
 cases hd:Acf s with
 |true=>
  cases hl:Ajq s==0 with
  |false=>simp[hd,hl,bne]
  |true=>
   have e:inR (Ajq s) 0 1000000=true:=by simp at hl;simp[inR,hl]
   simp[hd,hl,bne,e]
 |false=>
  cases hl:inR (Ajq s) 0 1000000 with
  |false=>simp[hd,hl,bne]
  |true=>simp[hd,hl,bne]
end
end Go.Proofs.YtmhhajdeafijmaaGreat

/-
  That the program and the reference answer alike, in plain terms, and that the laws answer true.
-/
import Derived.Test.YtfljmgnghlpapaaGreatL2
namespace Go.Proofs.YtfljmgnghlpapaaGreat
open Go.RowKit
set_option linter.unusedVariables false
set_option linter.unusedSimpArgs false
set_option maxHeartbeats 4000000
noncomputable section
def eqA (a b c d:Int):Bool:=and (a==c) (and (b==d) true)
def M0 (at1 at2:Int) (l:List Ap) (i:Nat) (x:Ap):Bool:=
 !(D3 (x.1,x.2.1,()) && (!eqA x.1 x.2.1 at1 at2 && (((x.2.2.1.length:Int)==12) && (inR x.2.2.2.1 0 1000006 && C6 (fun _ y=>eqA y.1 y.2.1 x.1 x.2.1) (l.take i)))))
def D7 (p:Bb):Bool:=D3 (p.1,p.2.1,()) && (!decide ((p.2.2.1.length:Int)>3) && C6 (M0 p.1 p.2.1 p.2.2.1) p.2.2.1)
theorem Baw (l0:List Ap) (n:Int) (i:Nat) (m:List Ap) (hm:m.length≤4294967296) (a b:Int) (l:List Ap) (x:Ap):
  As Gv (l0,n,(i:Int),m,(m.length:Int),(0:Int),a,b,l,x.1,x.2.1,x.2.2.1,x.2.2.2.1,())=some (bif C6 (fun _ y=>eqA y.1 y.2.1 x.1 x.2.1) m then .inr (l0,n,(i:Int),a,b,l,())else .inl (false,())):=by
 have h:=D4 (B:=Gv) m (fun j=>(l0,n,(i:Int),m,(m.length:Int),(j:Int),a,b,l,x.1,x.2.1,x.2.2.1,x.2.2.2.1,())) (fun _ y=>eqA y.1 y.2.1 x.1 x.2.1) (false,()) (l0,n,(i:Int),a,b,l,())
  (fun j y hj hy=>by
   unfold Gv
   simp (disch:=omega) only[Ac,Ae,Ab,By hj,A4,Bk hy,Ai,w64]
   rfl)
  (by unfold Gv;simp only[Ac,Ab,Bz,Au])
 rw[show((0:Int))=((0:Nat):Int)from rfl,h]
theorem Bax (i:Nat) (a b:Int) (l:List Ap) (hi:i≤l.length) (hl:l.length≤4294967296) (x:Ap):
  As Fz ((i:Int),(0:Int),a,b,l,x.1,x.2.1,x.2.2.1,x.2.2.2.1,())=some (bif C6 (fun _ y=>eqA y.1 y.2.1 x.1 x.2.1) (l.take i)then .inr ((i:Int),a,b,l,())else .inl (false,())):=by
 have hlen:(l.take i).length=i:=by simp;omega
 have h:=D4 (B:=Fz) (l.take i) (fun j=>((i:Int),(j:Int),a,b,l,x.1,x.2.1,x.2.2.1,x.2.2.2.1,())) (fun _ y=>eqA y.1 y.2.1 x.1 x.2.1) (false,()) ((i:Int),a,b,l,())
  (fun j y hj hy=>by
   have hy2:l[j]? =some y:=by rw[List.getElem?_take]at hy;split at hy;exact hy;cases hy
   unfold Fz
   simp (disch:=omega) only[Ac,Ae,Ab,By (show j<i by omega),A4,Bk hy2,Ai,w64]
   rfl)
  (by unfold Fz;rw[hlen];simp only[Ac,Ab,Bz,Au])
 rw[show((0:Int))=((0:Nat):Int)from rfl,h]
theorem Amn (p:Bb) (hl:p.2.2.1.length≤4294967296):Nz p=some (D7 p,()):=by
 obtain⟨a,b,l,_⟩:=p
 simp only at hl
 have h:=D4 (B:=H9) l (fun i=>(l,(l.length:Int),(i:Int),a,b,l,())) (M0 a b l) (false,()) ()
  (fun i x hi hx=>by
   have hlen:(l.take i).length≤4294967296:=by simp;omega
   unfold H9
   simp only[Ac,Ae,Ab,Al,Dn,By hi,A4,Bk hx,Ai,Ow,L8,Bw,Int.toNat_natCast,Int.toNat_zero,List.drop_zero]
   rw[Baw l _ i _ hlen]
   unfold M0
   rw[An zq0,An zq0]
   simp only[A8,eqA,Ai]
   cases D3 (x.1,x.2.1,())<;>cases (and (x.1==a) (and (x.2.1==b) true))<;>cases ((x.2.2.1.length:Int)==12)<;>cases inR x.2.2.2.1 0 1000006<;>cases C6 (fun _ (y:Ap)=>and (y.1==x.1) (and (y.2.1==x.2.1) true)) (l.take i)<;>first|rfl|(simp only[cond_true,Av3,br,Bool.not_true];rw[w64 zq0];rfl))
  (by unfold H9;simp only[Ac,Ab,Bz,Au])
 unfold Nz Sp D7
 simp only[Ac,Ae,Ab,Dn,Ow,Ai]
 rw[show((0:Int))=((0:Nat):Int)from rfl,h]
 cases D3 (a,b,())<;>cases decide ((l.length:Int)>3)<;>cases C6 (M0 a b l) l<;>rfl
theorem Amo (p:Bb) (hl:p.2.2.1.length≤4294967296):Nv p=some (D7 p,()):=by
 obtain⟨a,b,l,_⟩:=p
 simp only at hl
 have h:=D4 (B:=H4) l (fun i=>((i:Int),a,b,l,())) (M0 a b l) (false,()) ()
  (fun i x hi hx=>by
   unfold H4
   simp only[Ac,Ae,Ab,Al,Dn,By hi,A4,Bk hx,Ai,Ox,Df]
   rw[Bax i a b l zq0 hl]
   unfold M0
   simp only[Ai,eqA,bne]
   cases D3 (x.1,x.2.1,())<;>cases (and (x.1==a) (and (x.2.1==b) true))<;>cases ((x.2.2.1.length:Int)==12)<;>cases inR x.2.2.2.1 0 1000006<;>cases C6 (fun _ (y:Ap)=>and (y.1==x.1) (and (y.2.1==x.2.1) true)) (l.take i)<;>first|rfl|(simp only[cond_true,Av3,br,Bool.not_true];rw[w64 zq0];rfl))
  (by unfold H4;simp only[Ac,Ab,Bz,Au])
 unfold Nv Se D7
 simp only[Ac,Ae,Ab,Dn,Ox,Ai]
 rw[show((0:Int))=((0:Nat):Int)from rfl,h]
 cases D3 (a,b,())<;>cases decide ((l.length:Int)>3)<;>cases C6 (M0 a b l) l<;>rfl
abbrev Fx (s:Ad):Bt:=(s.2.2.2.1,s.2.2.2.2.1,s.2.2.2.2.2.1,s.2.2.2.2.2.2.1,s.2.2.2.2.2.2.2.1,s.2.2.2.2.2.2.2.2.1,s.2.2.2.2.2.2.2.2.2.1,s.2.2.2.2.2.2.2.2.2.2.1,s.2.2.2.2.2.2.2.2.2.2.2.1,s.2.2.2.2.2.2.2.2.2.2.2.2.1,s.2.2.2.2.2.2.2.2.2.2.2.2.2.1,s.2.2.2.2.2.2.2.2.2.2.2.2.2.2.1,s.2.2.2.2.2.2.2.2.2.2.2.2.2.2.2.1,s.2.2.2.2.2.2.2.2.2.2.2.2.2.2.2.2.1,s.2.2.2.2.2.2.2.2.2.2.2.2.2.2.2.2.2.1,())
abbrev Ew (s:Ad):Bb:=(s.2.2.2.2.2.2.2.2.2.2.2.2.2.2.2.2.2.2.1,s.2.2.2.2.2.2.2.2.2.2.2.2.2.2.2.2.2.2.2.1,s.2.2.2.2.2.2.2.2.2.2.2.2.2.2.2.2.2.2.2.2.1,())
abbrev X4 (s:Ad):Int:=s.2.2.2.2.2.2.2.2.2.2.2.2.2.2.2.2.2.2.2.2.2.1
abbrev Qr (s:Ad):Int:=s.2.2.2.2.2.2.2.2.2.2.2.2.2.2.2.2.2.2.2.2.2.2.1
abbrev Bo (s:Ad):Bool:=s.2.2.2.2.2.2.2.2.2.2.2.2.2.2.2.2.2.2.2.2.2.2.2.1
def Cs (s:Ad):Bool:=
 inR s.1 1 9 && (((s.2.1.length:Int)==12) && (((s.2.2.1.length:Int)==12) && (inR (X4 s) 0 1000000 &&
  (bif Bo s then At3 (Fx s) && (eqA (Ew s).1 (Ew s).2.1 0 0 && ((((Ew s).2.2.1.length:Int)==0) && (Qr s==0)))
  else Km (Fx s) && ((s.2.2.2.1==1) && (Ds s.2.2.2.2.1 s.2.2.1 && (D7 (Ew s) && inR (Qr s) 0 1000000)))))))
theorem Oy (s:Ad) (h:Aw s≤4294967296):J5 s=some (Cs s,()):=by
 have hn:Aw s=_:=rfl
 unfold J5 Agj Cs
 simp only[Aw]at h
 rw[A14 _ zq2 zq2,Amn _ zq2]
 simp only[Ac,Ae,Ab,Bw,L8,A13,N4,Ai,Vt,Bool.cond_false_right,Bool.cond_true_left,Bool.cond_false_left,eqA,Bool.not_not]
theorem Be7:I6 ((-1:Int),())=some ((0:Int),(0:Int),()):=by
 unfold I6 Ae9
 simp only[Ac,Ae,Ab,Df,Ai]
 rfl
theorem Ahz (s:Ad) (h:Aw s≤4294967296):Qc s=some (Cs s,()):=by
 unfold Qc Afd Cs
 simp only[Aw]at h
 rw[Amo _ zq2]
 simp only[Ac,Ae,Ab,Df,A5g,A11,Bc4,Be7,Ai,Vt,Bool.cond_false_right,Bool.cond_true_left,Bool.cond_false_left,eqA,Bool.not_not]
 refine congrArg (fun b=>some (b,())) ?_
 cases hd:Bo s with
 |true=>
  cases hl:Qr s==0 with
  |false=>simp[hd,hl,bne]
  |true=>
   have e:inR (Qr s) 0 1000000=true:=by simp at hl;simp[inR,hl]
   simp[hd,hl,bne,e]
 |false=>
  cases hl:inR (Qr s) 0 1000000 with
  |false=>simp[hd,hl,bne]
  |true=>simp[hd,hl,bne]
end
end Go.Proofs.YtfljmgnghlpapaaGreat

/-
  That the program and the reference answer alike, in plain terms, and that the laws answer true.
-/
import Derived.Test.YtmhhajdeafijmaaGreatL2
namespace Go.Proofs.YtmhhajdeafijmaaGreat
open Go.RowKit
set_option linter.unusedVariables false
set_option linter.unusedSimpArgs false
set_option maxHeartbeats 4000000
noncomputable section
def eqA (a b c d:Int):Bool:=and (a==c) (and (b==d) true)
def My (at1 at2:Int) (l:List Ap) (i:Nat) (x:Ap):Bool:=
 !(Dp (x.1,x.2.1,()) && (!eqA x.1 x.2.1 at1 at2 && (((x.2.2.1.length:Int)==12) && (inR x.2.2.2.1 0 1000006 && He (fun _ y=>eqA y.1 y.2.1 x.1 x.2.1) (l.take i)))))
def Cq (p:Bb):Bool:=Dp (p.1,p.2.1,()) && (!decide ((p.2.2.1.length:Int)>3) && He (My p.1 p.2.1 p.2.2.1) p.2.2.1)
theorem A2r (l0:List Ap) (n:Int) (i:Nat) (m:List Ap) (hm:m.length≤4294967296) (a b:Int) (l:List Ap) (x:Ap):
  Ay Gw (l0,n,(i:Int),m,(m.length:Int),(0:Int),a,b,l,x.1,x.2.1,x.2.2.1,x.2.2.2.1,())=some (bif He (fun _ y=>eqA y.1 y.2.1 x.1 x.2.1) m then .inr (l0,n,(i:Int),a,b,l,())else .inl (false,())):=by
 have h:=J1 (B:=Gw) m (fun j=>(l0,n,(i:Int),m,(m.length:Int),(j:Int),a,b,l,x.1,x.2.1,x.2.2.1,x.2.2.2.1,())) (fun _ y=>eqA y.1 y.2.1 x.1 x.2.1) (false,()) (l0,n,(i:Int),a,b,l,())
  (fun j y hj hy=>by
   unfold Gw
   simp (disch:=omega) only[Ae,Ai,Ac,Ep hj,A0,Ca hy,Ag,w64]
   rfl)
  (by unfold Gw;simp only[Ae,Ac,Er,Am])
 rw[show((0:Int))=((0:Nat):Int)from rfl,h]
theorem A2s (i:Nat) (a b:Int) (l:List Ap) (hi:i≤l.length) (hl:l.length≤4294967296) (x:Ap):
  Ay F0 ((i:Int),(0:Int),a,b,l,x.1,x.2.1,x.2.2.1,x.2.2.2.1,())=some (bif He (fun _ y=>eqA y.1 y.2.1 x.1 x.2.1) (l.take i)then .inr ((i:Int),a,b,l,())else .inl (false,())):=by
 have hlen:(l.take i).length=i:=by simp;omega
 have h:=J1 (B:=F0) (l.take i) (fun j=>((i:Int),(j:Int),a,b,l,x.1,x.2.1,x.2.2.1,x.2.2.2.1,())) (fun _ y=>eqA y.1 y.2.1 x.1 x.2.1) (false,()) ((i:Int),a,b,l,())
  (fun j y hj hy=>by
   have hy2:l[j]? =some y:=by rw[List.getElem?_take]at hy;split at hy;exact hy;cases hy
   unfold F0
   simp (disch:=omega) only[Ae,Ai,Ac,Ep (show j<i by omega),A0,Ca hy2,Ag,w64]
   rfl)
  (by unfold F0;rw[hlen];simp only[Ae,Ac,Er,Am])
 rw[show((0:Int))=((0:Nat):Int)from rfl,h]
theorem J2 (p:Bb) (hl:p.2.2.1.length≤4294967296):La p=some (Cq p,()):=by
 obtain⟨a,b,l,_⟩:=p
 simp only at hl
 have h:=J1 (B:=Ib) l (fun i=>(l,(l.length:Int),(i:Int),a,b,l,())) (My a b l) (false,()) ()
  (fun i x hi hx=>by
   have hlen:(l.take i).length≤4294967296:=by simp;omega
   unfold Ib
   simp only[Ae,Ai,Ac,Aj,G6,Ep hi,A0,Ca hx,Ag,Kf,Hk,Ch,Int.toNat_natCast,Int.toNat_zero,List.drop_zero]
   rw[A2r l _ i _ hlen]
   unfold My
   rw[Ak zq0,Ak zq0]
   simp only[A8,eqA,Ag]
   cases Dp (x.1,x.2.1,())<;>cases (and (x.1==a) (and (x.2.1==b) true))<;>cases ((x.2.2.1.length:Int)==12)<;>cases inR x.2.2.2.1 0 1000006<;>cases He (fun _ (y:Ap)=>and (y.1==x.1) (and (y.2.1==x.2.1) true)) (l.take i)<;>first|rfl|(simp only[cond_true,Aqk,br,Bool.not_true];rw[w64 zq0];rfl))
  (by unfold Ib;simp only[Ae,Ac,Er,Am])
 unfold La Sw Cq
 simp only[Ae,Ai,Ac,G6,Kf,Ag]
 rw[show((0:Int))=((0:Nat):Int)from rfl,h]
 cases Dp (a,b,())<;>cases decide ((l.length:Int)>3)<;>cases He (My a b l) l<;>rfl
theorem Za (p:Bb) (hl:p.2.2.1.length≤4294967296):Sq p=some (Cq p,()):=by
 obtain⟨a,b,l,_⟩:=p
 simp only at hl
 have h:=J1 (B:=H9) l (fun i=>((i:Int),a,b,l,())) (My a b l) (false,()) ()
  (fun i x hi hx=>by
   unfold H9
   simp only[Ae,Ai,Ac,Aj,G6,Ep hi,A0,Ca hx,Ag,Rs,Cw]
   rw[A2s i a b l zq0 hl]
   unfold My
   simp only[Ag,eqA,bne]
   cases Dp (x.1,x.2.1,())<;>cases (and (x.1==a) (and (x.2.1==b) true))<;>cases ((x.2.2.1.length:Int)==12)<;>cases inR x.2.2.2.1 0 1000006<;>cases He (fun _ (y:Ap)=>and (y.1==x.1) (and (y.2.1==x.2.1) true)) (l.take i)<;>first|rfl|(simp only[cond_true,Aqk,br,Bool.not_true];rw[w64 zq0];rfl))
  (by unfold H9;simp only[Ae,Ac,Er,Am])
 unfold Sq Sp Cq
 simp only[Ae,Ai,Ac,G6,Rs,Ag]
 rw[show((0:Int))=((0:Nat):Int)from rfl,h]
 cases Dp (a,b,())<;>cases decide ((l.length:Int)>3)<;>cases He (My a b l) l<;>rfl
abbrev Ci (s:Bp):Al:=(s.2.2.2.1,s.2.2.2.2.1,s.2.2.2.2.2.1,s.2.2.2.2.2.2.1,s.2.2.2.2.2.2.2.1,s.2.2.2.2.2.2.2.2.1,s.2.2.2.2.2.2.2.2.2.1,s.2.2.2.2.2.2.2.2.2.2.1,s.2.2.2.2.2.2.2.2.2.2.2.1,s.2.2.2.2.2.2.2.2.2.2.2.2.1,s.2.2.2.2.2.2.2.2.2.2.2.2.2.1,s.2.2.2.2.2.2.2.2.2.2.2.2.2.2.1,s.2.2.2.2.2.2.2.2.2.2.2.2.2.2.2.1,s.2.2.2.2.2.2.2.2.2.2.2.2.2.2.2.2.1,s.2.2.2.2.2.2.2.2.2.2.2.2.2.2.2.2.2.1,())
abbrev A5 (s:Bp):Bb:=(s.2.2.2.2.2.2.2.2.2.2.2.2.2.2.2.2.2.2.1,s.2.2.2.2.2.2.2.2.2.2.2.2.2.2.2.2.2.2.2.1,s.2.2.2.2.2.2.2.2.2.2.2.2.2.2.2.2.2.2.2.2.1,())
abbrev Aoe (s:Bp):Int:=s.2.2.2.2.2.2.2.2.2.2.2.2.2.2.2.2.2.2.2.2.2.1
abbrev Qu (s:Bp):Int:=s.2.2.2.2.2.2.2.2.2.2.2.2.2.2.2.2.2.2.2.2.2.2.1
abbrev Ky (s:Bp):Bool:=s.2.2.2.2.2.2.2.2.2.2.2.2.2.2.2.2.2.2.2.2.2.2.2.1
def Fm (s:Bp):Bool:=
 inR s.1 1 9 && (((s.2.1.length:Int)==12) && (((s.2.2.1.length:Int)==12) && (inR (Aoe s) 0 1000000 &&
  (bif Ky s then Aod (Ci s) && (eqA (A5 s).1 (A5 s).2.1 0 0 && ((((A5 s).2.2.1.length:Int)==0) && (Qu s==0)))
  else Bo (Ci s) && ((s.2.2.2.1==1) && (Ew s.2.2.2.2.1 s.2.2.1 && (Cq (A5 s) && inR (Qu s) 0 1000000)))))))
theorem Aeu (s:Bp) (h:Br s≤4294967296):Pv s=some (Fm s,()):=by
 have hn:Br s=_:=rfl
 unfold Pv Adl Fm
 simp only[Br]at h
 rw[Ma _ zq2 zq2,J2 _ zq2]
 simp only[Ae,Ai,Ac,Ch,Hk,Auz,Ns,Ag,U4,Bool.cond_false_right,Bool.cond_true_left,Bool.cond_false_left,eqA,Bool.not_not]
theorem A6l:Hv ((-1:Int),())=some ((0:Int),(0:Int),()):=by
 unfold Hv Vm
 simp only[Ae,Ai,Ac,Cw,Ag]
 rfl
theorem A4y (s:Bp) (h:Br s≤4294967296):V_s_SessOk s=some (Fm s,()):=by
 unfold V_s_SessOk T_s_SessOk Fm
 simp only[Br]at h
 rw[Za _ zq2]
 simp only[Ae,Ai,Ac,Cw,Axz,Wv,Mb,A6l,Ag,U4,Bool.cond_false_right,Bool.cond_true_left,Bool.cond_false_left,eqA,Bool.not_not]
 refine congrArg (fun b=>some (b,())) ?_
 cases hd:Ky s with
 |true=>
  cases hl:Qu s==0 with
  |false=>simp[hd,hl,bne]
  |true=>
   have e:inR (Qu s) 0 1000000=true:=by simp at hl;simp[inR,hl]
   simp[hd,hl,bne,e]
 |false=>
  cases hl:inR (Qu s) 0 1000000 with
  |false=>simp[hd,hl,bne]
  |true=>simp[hd,hl,bne]
end
end Go.Proofs.YtmhhajdeafijmaaGreat

/-
  That the program and the reference answer alike, in plain terms, and that the laws answer true.
-/
import Derived.Test.YtmhhajdeafijmaaGreatL1
namespace Go.Proofs.YtmhhajdeafijmaaGreat
open Go.RowKit
set_option linter.unusedVariables false
set_option linter.unusedSimpArgs false
set_option maxHeartbeats 4000000
noncomputable section
theorem Qs (b c:Bool):br b (some (c,())) (some (false,()))=some (b && c,()):=by cases b<;>rfl
theorem A6e (b c:Bool):br b (some (true,())) (some (c,()))=some (b || c,()):=by cases b<;>rfl
theorem U4 (b c d:Bool):br b (some (c,())) (some (d,()))=some (bif b then c else d,()):=by cases b<;>rfl
def Dp (a:B7):Bool:=inR a.1 0 4294967295 && inR a.2.1 0 65535
theorem Kf (a:B7):Ij a=some (Dp a,()):=by
 unfold Ij Adk Dp
 simp only[Ae,Ai,Ac,Ch,Ag,Qs]
theorem Rs (a:B7):J9 a=some (Dp a,()):=by
 unfold J9 Acv Dp
 simp only[Ae,Ai,Ac,Cw,Ag,Qs]
theorem Hk (a:YBs):D4 a=some ((a.1.length:Int)==12,()):=rfl
theorem Ww (a:YI):Mr a=some (a.1==0 || a.1==1,()):=by
 unfold Mr Adh
 simp only[Ae,Ac,A6e]
theorem Ab3 (n:Int):(n==0 || n==1)=inR n 0 1:=by
 apply Kg
 simp[inR]
 omega
def Uf (w:B5) (n:Int):Bool:=
 match idx w.2.1 ((n%1024)/32)with
 |some e=>IntKind.i64.wrap ((BitVec.ofInt (IntKind.i64.bits) (Int.fdiv e.1 (2^(min ((n%32)).toNat IntKind.i64.bits))) &&& BitVec.ofInt (IntKind.i64.bits) (1:Int)).toNat:Nat)==1
 |none=>false
theorem Al0 (w:B5) (n:YI) (hl:w.2.1.length=32) (h0:0≤n.1):Pu w n=some (Uf w n.1,()):=by
 obtain⟨e,he,_⟩:=Rt (l:=w.2.1) (n:=(n.1%1024)/32) zq0 zq0
 unfold Pu Adi Uf
 simp only[Aj,Ai,Ac,he,Ag]
 rw[Ak h0,Ak zq0,Ak zq0]
 rfl
theorem Aqj (w:B5) (n:YI) (hl:w.2.1.length=32) (h0:0≤n.1):S8 w n=some (Uf w n.1,()):=by
 obtain⟨e,he,_⟩:=Rt (l:=w.2.1) (n:=(n.1%1024)/32) zq0 zq0
 unfold S8 Agy Uf
 simp only[Aj,Ai,Ac,he,Ag]
 rw[Ak h0,Ak zq0,Ak zq0,show(n.1%1024)%32=n.1%32 by omega]
 rfl
def Ed (l:List YI):Bool:=He (fun _ e=> !inR e.1 0 4294967295) l
theorem Aet (l:List YI) (n:Int) (hl:l.length≤4294967296):Lr (l,()) (n,())=some (Ed l && ((l.length:Int)==n),()):=by
 have h:=J1 (B:=Je) l (fun i=>(l,n,l,(l.length:Int),(i:Int),())) (fun _ e=> !inR e.1 0 4294967295) (false,()) (l,n,())
  (fun i x hi hx=>by
   unfold Je
   simp (disch:=omega) only[Ae,Ai,Ac,Ep hi,A0,Ca hx,Ag,Ch,w64]
   rfl)
  (by unfold Je;simp only[Ae,Ai,Ac,Er,Am])
 unfold Lr V6
 simp only[Ai,G6,Ac]
 rw[show((0:Int))=((0:Nat):Int)from rfl,h]
 unfold Ed
 cases He (fun _ (e:YI)=> !inR e.1 0 4294967295) l<;>rfl
def U9 (w:B5):Bool:=He (fun i (_:Unit)=>Uf w (w.1+1+(i:Nat))) (List.replicate (1024-(w.1+1)).toNat ())
def Fw (w:B5):Bool:=inR w.1 (-1) 281474976710655 && (Ed w.2.1 && ((w.2.1.length:Int)==32) && (U9 w && (w.1== -1 || Uf w w.1)))
theorem Bl {n lo hi:Int}:inR n lo hi=true↔lo≤n∧n≤hi:=by simp[inR]
theorem A2p (t:Int) (l:List YI) (hl:l.length=32) (h0: -1≤t) (h1:t≤281474976710655):Ay K9 (t+1,t,l,())=some (bif U9 (t,l,())then .inr (t,l,())else .inl (false,())):=by
 have h:=Aoc (B:=K9) (1024-(t+1)).toNat (fun i=>(t+1+(i:Nat),t,l,())) (fun i=>Uf (t,l,()) (t+1+(i:Nat))) (false,()) (t,l,())
  (fun i hi=>by
   unfold K9
   simp (disch:=first|exact hl|(dsimp only;omega)|omega) only[Ae,Ai,Ac,Al0,Ag,w64]
   rw[Ak zq0]
   simp only[A0]
   rw[show t+1+((i+1:Nat):Int)=t+1+(i:Int)+1 by omega])
  (by
   unfold K9
   simp only[Ae,Ac]
   rw[C4 zq1])
 rw[show t+1=t+1+((0:Nat):Int) by simp,h]
 rfl
theorem Ay2 (w:B5) (hl:w.2.1.length≤4294967296):Xj w=some (Fw w,()):=by
 obtain⟨t,l,_⟩:=w
 simp only at hl
 unfold Xj Ag5 Fw
 simp (disch:=omega) only[Ae,Ai,Ac,G6,Ch,Ag,Aet]
 cases h1:inR t (-1) 281474976710655 with
 |false=>rfl
 |true=>
  cases h2:(Ed l && ((l.length:Int)==32))with
  |false=>rfl
  |true=>
   have h1:=Bl.1 h1
   have h3:l.length=32:=by simp at h2;omega
   simp only[Bool.not_true,Am]
   rw[w64 zq0,A2p t l h3 zq0 zq0]
   cases h4:U9 (t,l,())with
   |false=>rfl
   |true=>
    simp only[Ag,cond_true,Aqk,Bool.true_and]
    by_cases h5:t= -1
    ·subst h5;rfl
    ·rw[Al0 _ _ h3 zq2,Ag,A6e]
theorem A2q (t:Int) (l:List YI) (hl:l.length=32) (h0: -1≤t) (h1:t≤281474976710655):Ay Ge (t+1,t,l,())=some (bif U9 (t,l,())then .inr ()else .inl (false,())):=by
 have h:=Aoc (B:=Ge) (1024-(t+1)).toNat (fun i=>(t+1+(i:Nat),t,l,())) (fun i=>Uf (t,l,()) (t+1+(i:Nat))) (false,()) ()
  (fun i hi=>by
   unfold Ge
   simp (disch:=first|exact hl|(dsimp only;omega)|omega) only[Ae,Ai,Ac,Aqj,Ag,w64]
   rw[Ak zq0]
   simp only[A0]
   rw[show t+1+((i+1:Nat):Int)=t+1+(i:Int)+1 by omega])
  (by
   unfold Ge
   simp only[Ae,Ac]
   rw[C4 zq1])
 rw[show t+1=t+1+((0:Nat):Int) by simp,h]
 rfl
theorem A0p (t:Int) (l:List YI) (hl:l.length=32):Ay I1 (0,t,l,())=some (bif Ed l then .inr (t,l,())else .inl (false,())):=by
 have h:=J1 (B:=I1) l (fun i=>((i:Int),t,l,())) (fun _ e=> !inR e.1 0 4294967295) (false,()) (t,l,())
  (fun i x hi hx=>by
   unfold I1
   rw[hl]at hi
   simp (disch:=omega) only[Ae,Ai,Ac,Ca hx,Ag,Cw,w64]
   rw[Ak zq0]
   rfl)
  (by unfold I1;simp only[Ae,Ai,Ac,hl];rfl)
 rw[show((0:Int))=((0:Nat):Int)from rfl,h]
 rfl
theorem Ay3 (w:B5):Agz w=some (Fw w,()):=by
 obtain⟨t,l,_⟩:=w
 unfold Agz Xh Fw
 simp only[Ae,Ai,Ac,G6,Cw,Ag]
 by_cases h3:l.length=32
 ·rw[C4 (by simp[h3])]
  cases h1:inR t (-1) 281474976710655 with
  |false=>rfl
  |true=>
   have h1:=Bl.1 h1
   simp only[Bool.not_true,Am]
   rw[A0p t l h3]
   cases h2:Ed l with
   |false=>rfl
   |true=>
    simp only[Ag,cond_true,Aqk,Bool.true_and,h3]
    rw[w64 zq0,A2q t l h3 zq0 zq0]
    by_cases h5:t= -1
    ·subst h5
     rw[C4 zq3]
     cases U9 (-1,l,())<;>rfl
    ·rw[Fg zq1,Aqj _ _ h3 zq2,Ag]
     have h6:(t== -1)=false:=by simpa using h5
     rw[h6]
     cases Uf (t,l,()) t<;>cases U9 (t,l,())<;>rfl
 ·rw[Fg (by simpa using (by omega: ¬((l.length:Int)=32)))]
  have:((l.length:Int)==32)=false:=by simpa using (by omega: ¬((l.length:Int)=32))
  rw[this]
  simp
def Dt (e:YEp):Bool:=inR e.1 0 4294967295 && (((e.2.1.length:Int)==32) && (inR e.2.2.1 0 281474976710656 && Fw (e.2.2.2.1,e.2.2.2.2.1,())))
theorem Ah7 (e:YEp) (h:e.2.2.2.2.1.length≤4294967296):Rl e=some (Dt e,()):=by
 unfold Rl Alh Dt
 simp (disch:=first|exact h) only[Ae,Ai,Ac,Ch,Ag,Qs,Ay2]
theorem Auy (e:YEp):V_s_EpOk e=some (Dt e,()):=by
 unfold V_s_EpOk T_s_EpOk Dt
 simp only[Ae,Ai,Ac,Cw,Ag,Qs,Ay3]
def ep0 (e:YEp):Bool:=(e.1==0) && (((e.2.1.length:Int)==0) && ((e.2.2.1==0) && ((e.2.2.2.1==0) && ((e.2.2.2.2.1.length:Int)==0))))
theorem Ary (e:YEp):V_s_l14None e=some (ep0 e,()):=by
 unfold V_s_l14None T_s_l14None ep0
 simp only[Ae,Ac,Qs]
theorem Arz (l:List YB):Ew l []=((l.length:Int)==0):=by
 apply Kg
 unfold Ew Nb
 cases l<;>simp
 omega
theorem Aql (l:List YI):V5 (l,()) ([],())=some ((l.length:Int)==0,()):=by
 unfold V5 V4
 simp only[Ae,Ai,Ac,G6]
 cases l with
 |nil=>
  rw[C4 zq3]
  rw[C7]
  rfl
 |cons x r=>
  rw[Fg zq1]
  simp;omega
theorem Ar0 (e:YEp):Pt e ((0:Int),[],(0:Int),(0:Int),[],())=some (ep0 e,()):=by
 unfold Pt Adg ep0
 simp only[Ae,Ai,Ac,Ns,Arz,Aql,Ag,Qs]
def Aod (c:Al):Bool:=(c.1==0) && (((c.2.1.length:Int)==0) && (ep0 (c.2.2.1,c.2.2.2.1,c.2.2.2.2.1,c.2.2.2.2.2.1,c.2.2.2.2.2.2.1,()) && (ep0 (c.2.2.2.2.2.2.2.1,c.2.2.2.2.2.2.2.2.1,c.2.2.2.2.2.2.2.2.2.1,c.2.2.2.2.2.2.2.2.2.2.1,c.2.2.2.2.2.2.2.2.2.2.2.1,()) &&
 (!c.2.2.2.2.2.2.2.2.2.2.2.2.1 && ((c.2.2.2.2.2.2.2.2.2.2.2.2.2.1==0) && ((c.2.2.2.2.2.2.2.2.2.2.2.2.2.2.1.length:Int)==0))))))
theorem Auz (c:Al):Rk c=some (Aod c,()):=by
 unfold Rk Rj Aod
 simp only[Ae,Ai,Ac,Ar0,Ag,Qs]
theorem Axz (c:Al):V_s_l19NoChan c=some (Aod c,()):=by
 unfold V_s_l19NoChan T_s_l19NoChan Aod
 simp only[Ae,Ai,Ac,Ary,Ag,Qs]
abbrev H3 (c:Al):YEp:=(c.2.2.1,c.2.2.2.1,c.2.2.2.2.1,c.2.2.2.2.2.1,c.2.2.2.2.2.2.1,())
abbrev Ob (c:Al):YEp:=(c.2.2.2.2.2.2.2.1,c.2.2.2.2.2.2.2.2.1,c.2.2.2.2.2.2.2.2.2.1,c.2.2.2.2.2.2.2.2.2.2.1,c.2.2.2.2.2.2.2.2.2.2.2.1,())
abbrev Qt (c:Al):Bool:=c.2.2.2.2.2.2.2.2.2.2.2.2.1
abbrev Ru (c:Al):Int:=c.2.2.2.2.2.2.2.2.2.2.2.2.2.1
abbrev Ir (c:Al):List YB:=c.2.2.2.2.2.2.2.2.2.2.2.2.2.2.1
def H4 (c:Al):Bool:=bif !Qt c then ep0 (Ob c) && (Ru c==0)else
 !!Dt (Ob c) && (!((Ob c).1 != IntKind.i64.wrap ((H3 c).1-1)) && (inR (Ru c) 0 1000005 || ((Ru c== -1) && (c.1==1))))
def Bo (c:Al):Bool:= !!(c.1==0 || c.1==1) && (!!((c.2.1.length:Int)==12) && (!!Dt (H3 c) && (!!H4 c && (((Ir c).length:Int)==0 || ((c.1==0) && ((((Ir c).length:Int)==32) && decide ((H3 c).1<4294967295)))))))
theorem A6k (c:Al) (h:(Ob c).2.2.2.2.1.length≤4294967296):Ag7 c=some (H4 c,()):=by
 unfold Ag7 Ag6 H4
 simp (disch:=first|exact h) only[Ae,Ai,Ac,Ar0,Ag,Ah7,Ch,U4,Bool.cond_false_right,Bool.cond_true_left,Bool.cond_false_left]
theorem Ma (c:Al) (h1:(H3 c).2.2.2.2.1.length≤4294967296) (h2:(Ob c).2.2.2.2.1.length≤4294967296):Hc c=some (Bo c,()):=by
 unfold Hc Adj Bo
 simp (disch:=first|exact h1|exact h2) only[Ae,Ai,Ac,Ww,Hk,Ag,Ah7,A6k,U4,Bool.cond_false_right,Bool.cond_true_left,Bool.cond_false_left]
theorem Mb (c:Al):V_s_ChanOk c=some (Bo c,()):=by
 obtain⟨role,sn,n1,k1,q1,t1,b1,n2,k2,q2,t2,b2,has,til,next,_⟩:=c
 unfold V_s_ChanOk T_s_ChanOk Bo H4
 simp only[Ae,Ai,Ac,Cw,Ag,Auy,Ary,U4,Bool.cond_false_right,Bool.cond_true_left,Bool.cond_false_left,Ab3,H3,Ob,Qt,Ru,Ir]
 refine congrArg (fun b=>some (b,())) ?_
 cases h1:inR role 0 1 with
 |false=>rfl
 |true=>
  have h1:=Bl.1 h1
  cases has with
  |false=>simp[bne,Bool.and_assoc]
  |true=>
   rcases(show role=0∨role=1 by omega)with rfl|rfl
   ·simp[bne,Bool.and_assoc]
   ·have e2:inR til (-1) 1000005=(inR til 0 1000005 || til== -1):=by
     apply Kg;simp[inR];omega
    simp[bne,Bool.and_assoc,e2]
end
end Go.Proofs.YtmhhajdeafijmaaGreat

/-
  That the program and the reference answer alike, in plain terms, and that the laws answer true.
-/
import Derived.Test.YtmhhajdeafijmaaGreatL10
namespace Go.Proofs.YtmhhajdeafijmaaGreat
open Go.RowKit
set_option linter.unusedVariables false
set_option linter.unusedSimpArgs false
set_option maxHeartbeats 4000000
noncomputable section
def Fm (r:Int) (sn:List YB) (ep seq:Int):Bool:=inR r 0 1 && (((sn.length:Int)==12) && (inR ep 0 4294967295 && inR seq 0 281474976710655))
def Df (r:Int) (sn:List YB) (ep seq:Int):List YB:=bif Fm r sn ep seq then(IntKind.u8.wrap r,())::(sn++(Fi ep 4 4++Fi seq 6 6))else []
theorem An3 (r:Int) (sn:List YB) (ep seq:Int):Pq (r,()) (sn,()) (ep,()) (seq,())=some (Df r sn ep seq,()):=by
 unfold Pq Aec Df Fm
 simp only[Af,Ah,Ac,Afo,Ot,C9,Ai,Akz]
 cases inR r 0 1 with
 |false=>rfl
 |true=>
  cases hs:((sn.length:Int)==12)with
  |false=>rfl
  |true=>
   have hs':sn.length=12:=by simp at hs;omega
   cases inR ep 0 4294967295 with
   |false=>rfl
   |true=>
    cases inR seq 0 281474976710655 with
    |false=>rfl
    |true=>
     simp only[Bool.not_true,Ap,Bool.and_true,cond_true]
     rw[Ak0 _ _ (by simp),Ai,A1a _ _ (by simp),Ai,Lw _ (by simp[cat,Ix];omega) (by simp),Ai]
     simp[cat]
theorem Afx (r:Int) (sn:List YB) (ep seq:Int):Mf (r,()) (sn,()) (ep,()) (seq,())=some (Df r sn ep seq,()):=by
 unfold Mf Adt Df Fm
 simp only[Af,Ah,Ac,An,C4,Ai,bne]
 cases inR r 0 1 with
 |false=>rfl
 |true=>
  cases hs:((sn.length:Int)==12)with
  |false=>rfl
  |true=>
   have hs':sn.length=12:=by simp at hs;omega
   cases inR ep 0 4294967295 with
   |false=>rfl
   |true=>
    cases inR seq 0 281474976710655 with
    |false=>rfl
    |true=>
     simp only[Bool.not_true,Ap,Bool.and_true,cond_true]
     rw[Al zq1,A5,Rn _ _ zq1,Ai,A8s _ _ (by simp[Ix];omega),Ai]
     simp
theorem Lx (r:Int) (sn:List YB) (ep seq:Int):(Df r sn ep seq).length=(bif Fm r sn ep seq then 23 else 0):=by
 unfold Df
 cases h:Fm r sn ep seq with
 |false=>rfl
 |true=>
  unfold Fm at h
  simp at h
  have:sn.length=12:=by omega
  simp[Ix,this]
def Cw (r:Int) (f:Au):List YB:=bif inR r 0 1 && (El f && inR f.1 4 8)then((116:Int),())::(Df r f.2.2.2.1 f.2.2.2.2.2.2.2.1 f.2.2.2.2.2.2.2.2.1++((IntKind.u8.wrap f.1,())::f.2.2.2.2.2.2.2.2.2.1))else []
theorem Qo (r:Int) (f:Au) (h:Aq f≤536870912):Hm (r,()) f=some (Cw r f,()):=by
 have hh:=Lx r f.2.2.2.1 f.2.2.2.2.2.2.2.1 f.2.2.2.2.2.2.2.2.1
 simp only[Aq]at h
 unfold Hm V2 Cw
 simp only[Af,Ah,Ac,Afo,Afr,Ajr,Ai,Akz,An3]
 cases inR r 0 1 with
 |false=>rfl
 |true=>
  cases inR f.1 4 8 with
  |false=>cases El f<;>rfl
  |true=>
   cases El f with
   |false=>rfl
   |true=>
    have hle:(Df r f.2.2.2.1 f.2.2.2.2.2.2.2.1 f.2.2.2.2.2.2.2.2.1).length≤23:=by rw[hh];cases Fm r f.2.2.2.1 f.2.2.2.2.2.2.2.1 f.2.2.2.2.2.2.2.2.1<;>simp
    simp only[Bool.not_true,Ap,Bool.and_true,cond_true]
    rw[Lw _ (by simp[cat];omega) (by simp),Ai]
    simp[cat]
theorem Qp (r:Int) (f:Au) (h:Aq f≤536870912):Hl (r,()) f=some (Cw r f,()):=by
 have hh:=Lx r f.2.2.2.1 f.2.2.2.2.2.2.2.1 f.2.2.2.2.2.2.2.2.1
 simp only[Aq]at h
 unfold Hl Vs Cw
 simp only[Af,Ah,Ac,An,C4,Ro,Ta,Ai,Afx]
 cases inR r 0 1 with
 |false=>rfl
 |true=>
  cases El f with
  |false=>rfl
  |true=>
   cases inR f.1 4 8 with
   |false=>rfl
   |true=>
    have hle:(Df r f.2.2.2.1 f.2.2.2.2.2.2.2.1 f.2.2.2.2.2.2.2.2.1).length≤23:=by rw[hh];cases Fm r f.2.2.2.1 f.2.2.2.2.2.2.2.1 f.2.2.2.2.2.2.2.2.1<;>simp
    simp only[Bool.not_true,Ap,Bool.and_true,cond_true]
    rw[Al zq1,A5,Al zq1,A5,Al zq1,A5]
    simp
def Qq:List YB:=List.replicate 16 ((0:Int),())
def Ly (k:List YB) (r:Int) (sn:List YB) (ep seq kind:Int) (p:List YB):Bool:=((k.length:Int)==32) && (Fm r sn ep seq && (inR kind 4 8 && Ie kind (p.length:Int)))
def Ez:Au:=(0,0,[],[],0,[],[],0,0,[],[],())
def Fo (k:List YB) (r:Int) (sn:List YB) (ep seq kind:Int) (p:List YB):Au×(Bool×Unit):=
 bif Ly k r sn ep seq kind p then((kind,0,[],sn,0,[],[],ep,seq,mix k (Df r sn ep seq) p,W4 k (Cw r (kind,0,[],sn,0,[],[],ep,seq,mix k (Df r sn ep seq) p,Qq,())),()),(true,()))else(Ez,(false,()))
theorem A91 (sn:List YB) (ep seq kind:Int) (p:List YB) (hk:inR kind 4 8=true):El (kind,0,[],sn,0,[],[],ep,seq,p,Qq,())=(((sn.length:Int)==12) && (inR ep 0 4294967295 && (inR seq 0 281474976710655 && Ie kind (p.length:Int)))):=by
 unfold El
 simp only[hk,cond_true]
 simp[Qq]
theorem A46 (k:List YB) (r:Int) (sn:List YB) (ep seq kind:Int) (p:List YB) (h1:sn.length≤67108864) (h2:p.length≤67108864):V8 (k,()) (r,()) (sn,()) (ep,()) (seq,()) (kind,()) (p,())=some (Fo k r sn ep seq kind p):=by
 have hm:=Ajw k (Df r sn ep seq) p
 unfold V8 Ane Fo Ly Fm
 simp only[Af,Ah,Ac]
 rw[Dc _ zq2,Ai,Dc _ zq2,Ai]
 simp only[Afo,Afr,Ajr,Ai,Akz,bne]
 cases ((k.length:Int)==32)with
 |false=>rfl
 |true=>
  cases inR r 0 1 with
  |false=>rfl
  |true=>
   cases hk:inR kind 4 8 with
   |false=>simp[br];rfl
   |true=>
    simp only[Bool.not_true,Ap,Bool.true_and]
    rw[show List.replicate (16:Int).toNat ((0:Int),())=Qq from rfl,A91 sn ep seq kind p hk,An3,Ai,A8k,Ai]
    simp only
    rw[Qo _ _ (by simp only[Aq];simp[Qq];omega),Ai,A8j,Ai]
    cases ((sn.length:Int)==12)<;>cases inR ep 0 4294967295<;>cases inR seq 0 281474976710655<;>cases Ie kind (p.length:Int)<;>rfl
theorem A2x (x:List YB) (r a b:Int) (n1 n2:List YB) (c:Int) (n3 n4:List YB) (d e:Int) (n5 n6:List YB) (kind f:Int) (n7 sn:List YB) (g:Int) (n8 n9:List YB) (ep seq:Int) (body:List YB):
  Ay J0 (x,r,(0:Int),a,b,n1,n2,c,n3,n4,d,e,n5,n6,kind,f,n7,sn,g,n8,n9,ep,seq,body,[],())=some (x,r,a,b,n1,n2,c,n3,n4,d,e,n5,n6,kind,f,n7,sn,g,n8,n9,ep,seq,body,Qq,()):=by
 exact Cj (B:=J0) 16 (fun i=>(x,r,(i:Int),a,b,n1,n2,c,n3,n4,d,e,n5,n6,kind,f,n7,sn,g,n8,n9,ep,seq,body,List.replicate i ((0:Int),()),())) _
  (fun i hi=>by
   unfold J0
   simp only[Af,An,Ac]
   rw[Al zq0,Az,Al zq1,A5,w64 zq0,←List.replicate_succ']
   rfl)
  (by unfold J0;simp only[Af,An,Ac];rfl)
theorem A47 (k:List YB) (r:Int) (sn:List YB) (ep seq kind:Int) (p:List YB) (h1:sn.length≤67108864) (h2:p.length≤67108864):Bc (k,()) (r,()) (sn,()) (ep,()) (seq,()) (kind,()) (p,())=some (Fo k r sn ep seq kind p):=by
 have hm:=Ajw k (Df r sn ep seq) p
 have hh:=Lx r sn ep seq
 unfold Bc Adw Fo Ly
 simp only[Af,Ah,Ac,An,List.nil_append,List.length_nil,Nat.zero_add]
 rw[Afx,Ai]
 simp only[Ro,An0,Ai,bne]
 cases ((k.length:Int)==32)with
 |false=>rfl
 |true=>
  cases hd:Fm r sn ep seq with
  |false=>
   rw[hd]at hh
   have e:((Df r sn ep seq).length:Int)==0:=by rw[hh];rfl
   rw[e];rfl
  |true=>
   rw[hd]at hh
   have e:(((Df r sn ep seq).length:Int)==0)=false:=by rw[hh];rfl
   rw[e]
   cases hk:inR kind 4 8 with
   |false=>rfl
   |true=>
    cases hb:Ie kind (p.length:Int)with
    |false=>rfl
    |true=>
     simp only[Bool.not_true,Ap,Bool.true_and,Bool.and_true,cond_true]
     rw[Al zq0,A5,A8l,Ai]
     simp only
     rw[A2x,Ai]
     simp only
     rw[Qp _ _ (by simp only[Aq];simp[Qq];omega),Ai,A2w,Ai]
theorem A0g (k:List YB) (r:Int) (sn:List YB) (ep seq kind:Int) (p:List YB):Aq (Fo k r sn ep seq kind p).1≤sn.length+p.length+32:=by
 have hm:=Ajw k (Df r sn ep seq) p
 have ht:=A1e k (Cw r (kind,0,[],sn,0,[],[],ep,seq,mix k (Df r sn ep seq) p,Qq,()))
 unfold Fo
 cases Ly k r sn ep seq kind p<;>simp[Aq,Ez]
 omega
theorem Ami (r:Int) (f:Au):(Cw r f).length≤Aq f+32:=by
 have hh:=Lx r f.2.2.2.1 f.2.2.2.2.2.2.2.1 f.2.2.2.2.2.2.2.2.1
 have hle:(Df r f.2.2.2.1 f.2.2.2.2.2.2.2.1 f.2.2.2.2.2.2.2.2.1).length≤23:=by rw[hh];cases Fm r f.2.2.2.1 f.2.2.2.2.2.2.2.1 f.2.2.2.2.2.2.2.2.1<;>simp
 unfold Cw Aq
 cases (inR r 0 1 && (El f && inR f.1 4 8))<;>simp
 omega
end
end Go.Proofs.YtmhhajdeafijmaaGreat

/-
  That the program and the reference answer alike, in plain terms, and that the laws answer true.
-/
import Derived.Test.YtmhhajdeafijmaaGreatL10
namespace Go.Proofs.YtmhhajdeafijmaaGreat
open Go.RowKit
set_option linter.unusedVariables false
set_option linter.unusedSimpArgs false
set_option maxHeartbeats 4000000
noncomputable section
def E0 (r:Int) (sn:List YB) (ep seq:Int):Bool:=inR r 0 1 && (((sn.length:Int)==12) && (inR ep 0 4294967295 && inR seq 0 281474976710655))
def C8 (r:Int) (sn:List YB) (ep seq:Int):List YB:=bif E0 r sn ep seq then(IntKind.u8.wrap r,())::(sn++(Ft ep 4 4++Ft seq 6 6))else []
theorem Al3 (r:Int) (sn:List YB) (ep seq:Int):Px (r,()) (sn,()) (ep,()) (seq,())=some (C8 r sn ep seq,()):=by
 unfold Px Adr C8 E0
 simp only[Ae,Ai,Ac,Ww,Hk,Ch,Ag,Ab3]
 cases inR r 0 1 with
 |false=>rfl
 |true=>
  cases hs:((sn.length:Int)==12)with
  |false=>rfl
  |true=>
   have hs':sn.length=12:=by simp at hs;omega
   cases inR ep 0 4294967295 with
   |false=>rfl
   |true=>
    cases inR seq 0 281474976710655 with
    |false=>rfl
    |true=>
     simp only[Bool.not_true,Am,Bool.and_true,cond_true]
     rw[Ab4 _ _ zq3,Ag,Ay4 _ _ zq3,Ag,Kh _ (by simp[cat,Gz];omega) zq3,Ag]
     simp[cat]
theorem Ae2 (r:Int) (sn:List YB) (ep seq:Int):Up (r,()) (sn,()) (ep,()) (seq,())=some (C8 r sn ep seq,()):=by
 unfold Up Ac5 C8 E0
 simp only[Ae,Ai,Ac,Aj,Cw,Ag,bne]
 cases inR r 0 1 with
 |false=>rfl
 |true=>
  cases hs:((sn.length:Int)==12)with
  |false=>rfl
  |true=>
   have hs':sn.length=12:=by simp at hs;omega
   cases inR ep 0 4294967295 with
   |false=>rfl
   |true=>
    cases inR seq 0 281474976710655 with
    |false=>rfl
    |true=>
     simp only[Bool.not_true,Am,Bool.and_true,cond_true]
     rw[Ak zq1,A8,Rv _ _ zq1,Ag,A6o _ _ (by simp[Gz];omega),Ag]
     simp
theorem J4 (r:Int) (sn:List YB) (ep seq:Int):(C8 r sn ep seq).length=(bif E0 r sn ep seq then 23 else 0):=by
 unfold C8
 cases h:E0 r sn ep seq with
 |false=>rfl
 |true=>
  unfold E0 at h
  simp at h
  have:sn.length=12:=by omega
  simp[Gz,this]
def Cr (r:Int) (f:Au):List YB:=bif inR r 0 1 && (Co f && inR f.1 4 8)then((116:Int),())::(C8 r f.2.2.2.1 f.2.2.2.2.2.2.2.1 f.2.2.2.2.2.2.2.2.1++((IntKind.u8.wrap f.1,())::f.2.2.2.2.2.2.2.2.2.1))else []
theorem Mz (r:Int) (f:Au) (h:Aq f≤536870912):Hw (r,()) f=some (Cr r f,()):=by
 have hh:=J4 r f.2.2.2.1 f.2.2.2.2.2.2.2.1 f.2.2.2.2.2.2.2.2.1
 simp only[Aq]at h
 unfold Hw V7 Cr
 simp only[Ae,Ai,Ac,Ww,Aev,Ti,Ag,Ab3,Al3]
 cases inR r 0 1 with
 |false=>rfl
 |true=>
  cases inR f.1 4 8 with
  |false=>cases Co f<;>rfl
  |true=>
   cases Co f with
   |false=>rfl
   |true=>
    have hle:(C8 r f.2.2.2.1 f.2.2.2.2.2.2.2.1 f.2.2.2.2.2.2.2.2.1).length≤23:=by rw[hh];cases E0 r f.2.2.2.1 f.2.2.2.2.2.2.2.1 f.2.2.2.2.2.2.2.2.1<;>simp
    simp only[Bool.not_true,Am,Bool.and_true,cond_true]
    rw[Kh _ (by simp[cat];omega) zq3,Ag]
    simp[cat]
theorem Qz (r:Int) (f:Au) (h:Aq f≤536870912):Vu (r,()) f=some (Cr r f,()):=by
 have hh:=J4 r f.2.2.2.1 f.2.2.2.2.2.2.2.1 f.2.2.2.2.2.2.2.2.1
 simp only[Aq]at h
 unfold Vu Vt Cr
 simp only[Ae,Ai,Ac,Aj,Cw,Rw,Mc,Ag,Ae2]
 cases inR r 0 1 with
 |false=>rfl
 |true=>
  cases Co f with
  |false=>rfl
  |true=>
   cases inR f.1 4 8 with
   |false=>rfl
   |true=>
    have hle:(C8 r f.2.2.2.1 f.2.2.2.2.2.2.2.1 f.2.2.2.2.2.2.2.2.1).length≤23:=by rw[hh];cases E0 r f.2.2.2.1 f.2.2.2.2.2.2.2.1 f.2.2.2.2.2.2.2.2.1<;>simp
    simp only[Bool.not_true,Am,Bool.and_true,cond_true]
    rw[Ak zq1,A8,Ak zq1,A8,Ak zq1,A8]
    simp
def Kz:List YB:=List.replicate 16 ((0:Int),())
def Is (k:List YB) (r:Int) (sn:List YB) (ep seq kind:Int) (p:List YB):Bool:=((k.length:Int)==32) && (E0 r sn ep seq && (inR kind 4 8 && G7 kind (p.length:Int)))
def Fe:Au:=(0,0,[],[],0,[],[],0,0,[],[],())
def Es (k:List YB) (r:Int) (sn:List YB) (ep seq kind:Int) (p:List YB):Au×(Bool×Unit):=
 bif Is k r sn ep seq kind p then((kind,0,[],sn,0,[],[],ep,seq,mix k (C8 r sn ep seq) p,Qx k (Cr r (kind,0,[],sn,0,[],[],ep,seq,mix k (C8 r sn ep seq) p,Kz,())),()),(true,()))else(Fe,(false,()))
theorem A7v (sn:List YB) (ep seq kind:Int) (p:List YB) (hk:inR kind 4 8=true):Co (kind,0,[],sn,0,[],[],ep,seq,p,Kz,())=(((sn.length:Int)==12) && (inR ep 0 4294967295 && (inR seq 0 281474976710655 && G7 kind (p.length:Int)))):=by
 unfold Co
 simp only[hk,cond_true]
 simp[Kz]
theorem Aoj (k:List YB) (r:Int) (sn:List YB) (ep seq kind:Int) (p:List YB) (h1:sn.length≤67108864) (h2:p.length≤67108864):Wd (k,()) (r,()) (sn,()) (ep,()) (seq,()) (kind,()) (p,())=some (Es k r sn ep seq kind p):=by
 have hm:=Aic k (C8 r sn ep seq) p
 unfold Wd Alq Es Is E0
 simp only[Ae,Ai,Ac]
 rw[Cu _ zq2,Ag,Cu _ zq2,Ag]
 simp only[Ww,Aev,Ti,Ag,Ab3,bne]
 cases ((k.length:Int)==32)with
 |false=>rfl
 |true=>
  cases inR r 0 1 with
  |false=>rfl
  |true=>
   cases hk:inR kind 4 8 with
   |false=>simp[br];rfl
   |true=>
    simp only[Bool.not_true,Am,Bool.true_and]
    rw[show List.replicate (16:Int).toNat ((0:Int),())=Kz from rfl,A7v sn ep seq kind p hk,Al3,Ag,A6f,Ag]
    simp only
    rw[Mz _ _ (by simp only[Aq];simp[Kz];omega),Ag,A0y,Ag]
    cases ((sn.length:Int)==12)<;>cases inR ep 0 4294967295<;>cases inR seq 0 281474976710655<;>cases G7 kind (p.length:Int)<;>rfl
theorem A00 (x:List YB) (r a b:Int) (n1 n2:List YB) (c:Int) (n3 n4:List YB) (d e:Int) (n5 n6:List YB) (kind f:Int) (n7 sn:List YB) (g:Int) (n8 n9:List YB) (ep seq:Int) (body:List YB):
  Ay Ka (x,r,(0:Int),a,b,n1,n2,c,n3,n4,d,e,n5,n6,kind,f,n7,sn,g,n8,n9,ep,seq,body,[],())=some (x,r,a,b,n1,n2,c,n3,n4,d,e,n5,n6,kind,f,n7,sn,g,n8,n9,ep,seq,body,Kz,()):=by
 exact Cn (B:=Ka) 16 (fun i=>(x,r,(i:Int),a,b,n1,n2,c,n3,n4,d,e,n5,n6,kind,f,n7,sn,g,n8,n9,ep,seq,body,List.replicate i ((0:Int),()),())) _
  (fun i hi=>by
   unfold Ka
   simp only[Ae,Aj,Ac]
   rw[Ak zq0,A0,Ak zq1,A8,w64 zq0,←List.replicate_succ']
   rfl)
  (by unfold Ka;simp only[Ae,Aj,Ac];rfl)
theorem A22 (k:List YB) (r:Int) (sn:List YB) (ep seq kind:Int) (p:List YB) (h1:sn.length≤67108864) (h2:p.length≤67108864):Bg (k,()) (r,()) (sn,()) (ep,()) (seq,()) (kind,()) (p,())=some (Es k r sn ep seq kind p):=by
 have hm:=Aic k (C8 r sn ep seq) p
 have hh:=J4 r sn ep seq
 unfold Bg Ac8 Es Is
 simp only[Ae,Ai,Ac,Aj,List.nil_append,List.length_nil,Nat.zero_add]
 rw[Ae2,Ag]
 simp only[Rw,Al1,Ag,bne]
 cases ((k.length:Int)==32)with
 |false=>rfl
 |true=>
  cases hd:E0 r sn ep seq with
  |false=>
   rw[hd]at hh
   have e:((C8 r sn ep seq).length:Int)==0:=by rw[hh];rfl
   rw[e];rfl
  |true=>
   rw[hd]at hh
   have e:(((C8 r sn ep seq).length:Int)==0)=false:=by rw[hh];rfl
   rw[e]
   cases hk:inR kind 4 8 with
   |false=>rfl
   |true=>
    cases hb:G7 kind (p.length:Int)with
    |false=>rfl
    |true=>
     simp only[Bool.not_true,Am,Bool.true_and,Bool.and_true,cond_true]
     rw[Ak zq0,A8,A6g,Ag]
     simp only
     rw[A00,Ag]
     simp only
     rw[Qz _ _ (by simp only[Aq];simp[Kz];omega),Ag,A0z,Ag]
theorem Ax5 (k:List YB) (r:Int) (sn:List YB) (ep seq kind:Int) (p:List YB):Aq (Es k r sn ep seq kind p).1≤sn.length+p.length+32:=by
 have hm:=Aic k (C8 r sn ep seq) p
 have ht:=Ay8 k (Cr r (kind,0,[],sn,0,[],[],ep,seq,mix k (C8 r sn ep seq) p,Kz,()))
 unfold Es
 cases Is k r sn ep seq kind p<;>simp[Aq,Fe]
 omega
theorem Aa1 (r:Int) (f:Au):(Cr r f).length≤Aq f+32:=by
 have hh:=J4 r f.2.2.2.1 f.2.2.2.2.2.2.2.1 f.2.2.2.2.2.2.2.2.1
 have hle:(C8 r f.2.2.2.1 f.2.2.2.2.2.2.2.1 f.2.2.2.2.2.2.2.2.1).length≤23:=by rw[hh];cases E0 r f.2.2.2.1 f.2.2.2.2.2.2.2.1 f.2.2.2.2.2.2.2.2.1<;>simp
 unfold Cr Aq
 cases (inR r 0 1 && (Co f && inR f.1 4 8))<;>simp
 omega
end
end Go.Proofs.YtmhhajdeafijmaaGreat

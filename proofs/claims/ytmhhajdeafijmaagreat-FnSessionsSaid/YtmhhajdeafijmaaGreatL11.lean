/-
  That the program and the reference answer alike, in plain terms, and that the laws answer true.
-/
import Derived.Test.YtmhhajdeafijmaaGreatL10
namespace Go.Proofs.YtmhhajdeafijmaaGreat
open Go.RowKit
set_option linter.unusedVariables false
set_option linter.unusedSimpArgs false
set_option maxHeartbeats 4000000
noncomputable section
def E7 (r:Int) (sn:List YB) (ep seq:Int):Bool:=inR r 0 1 && (((sn.length:Int)==12) && (inR ep 0 4294967295 && inR seq 0 281474976710655))
def Da (r:Int) (sn:List YB) (ep seq:Int):List YB:=bif E7 r sn ep seq then(IntKind.u8.wrap r,())::(sn++(Fw ep 4 4++Fw seq 6 6))else []
theorem Ant (r:Int) (sn:List YB) (ep seq:Int):Q5 (r,()) (sn,()) (ep,()) (seq,())=some (Da r sn ep seq,()):=by
 unfold Q5 Aer Da E7
 simp only[Ae,Ai,Ac,Xj,Hp,Cj,Ag,Ac1]
 cases inR r 0 1 with
 |false=>rfl
 |true=>
  cases hs:((sn.length:Int)==12)with
  |false=>rfl
  |true=>
   have hs':sn.length=12:=by simp at hs;omega
   cases inR ep 0 4294967295 with
   |false=>rfl
   |true=>
    cases inR seq 0 281474976710655 with
    |false=>rfl
    |true=>
     simp only[Bool.not_true,An,Bool.and_true,cond_true]
     rw[Ac2 _ _ zq3,Ag,A09 _ _ zq3,Ag,Ks _ (by simp[cat,G6];omega) zq3,Ag]
     simp[cat]
theorem Af2 (r:Int) (sn:List YB) (ep seq:Int):Nb (r,()) (sn,()) (ep,()) (seq,())=some (Da r sn ep seq,()):=by
 unfold Nb Ad5 Da E7
 simp only[Ae,Ai,Ac,Ak,Cz,Ag,bne]
 cases inR r 0 1 with
 |false=>rfl
 |true=>
  cases hs:((sn.length:Int)==12)with
  |false=>rfl
  |true=>
   have hs':sn.length=12:=by simp at hs;omega
   cases inR ep 0 4294967295 with
   |false=>rfl
   |true=>
    cases inR seq 0 281474976710655 with
    |false=>rfl
    |true=>
     simp only[Bool.not_true,An,Bool.and_true,cond_true]
     rw[Am zq1,Ba,Ss _ _ zq1,Ag,A8u _ _ (by simp[G6];omega),Ag]
     simp
theorem Ke (r:Int) (sn:List YB) (ep seq:Int):(Da r sn ep seq).length=(bif E7 r sn ep seq then 23 else 0):=by
 unfold Da
 cases h:E7 r sn ep seq with
 |false=>rfl
 |true=>
  unfold E7 at h
  simp at h
  have:sn.length=12:=by omega
  simp[G6,this]
def Cu (r:Int) (f:Aq):List YB:=bif inR r 0 1 && (Cq f && inR f.1 4 8)then((116:Int),())::(Da r f.2.2.2.1 f.2.2.2.2.2.2.2.1 f.2.2.2.2.2.2.2.2.1++((IntKind.u8.wrap f.1,())::f.2.2.2.2.2.2.2.2.2.1))else []
theorem Nk (r:Int) (f:Aq) (h:Ar f≤536870912):H3 (r,()) f=some (Cu r f,()):=by
 have hh:=Ke r f.2.2.2.1 f.2.2.2.2.2.2.2.1 f.2.2.2.2.2.2.2.2.1
 simp only[Ar]at h
 unfold H3 Wt Cu
 simp only[Ae,Ai,Ac,Xj,Afv,T7,Ag,Ac1,Ant]
 cases inR r 0 1 with
 |false=>rfl
 |true=>
  cases inR f.1 4 8 with
  |false=>cases Cq f<;>rfl
  |true=>
   cases Cq f with
   |false=>rfl
   |true=>
    have hle:(Da r f.2.2.2.1 f.2.2.2.2.2.2.2.1 f.2.2.2.2.2.2.2.2.1).length≤23:=by rw[hh];cases E7 r f.2.2.2.1 f.2.2.2.2.2.2.2.1 f.2.2.2.2.2.2.2.2.1<;>simp
    simp only[Bool.not_true,An,Bool.and_true,cond_true]
    rw[Ks _ (by simp[cat];omega) zq3,Ag]
    simp[cat]
theorem Rk (r:Int) (f:Aq) (h:Ar f≤536870912):H1 (r,()) f=some (Cu r f,()):=by
 have hh:=Ke r f.2.2.2.1 f.2.2.2.2.2.2.2.1 f.2.2.2.2.2.2.2.2.1
 simp only[Ar]at h
 unfold H1 Wk Cu
 simp only[Ae,Ai,Ac,Ak,Cz,Su,Mr,Ag,Af2]
 cases inR r 0 1 with
 |false=>rfl
 |true=>
  cases Cq f with
  |false=>rfl
  |true=>
   cases inR f.1 4 8 with
   |false=>rfl
   |true=>
    have hle:(Da r f.2.2.2.1 f.2.2.2.2.2.2.2.1 f.2.2.2.2.2.2.2.2.1).length≤23:=by rw[hh];cases E7 r f.2.2.2.1 f.2.2.2.2.2.2.2.1 f.2.2.2.2.2.2.2.2.1<;>simp
    simp only[Bool.not_true,An,Bool.and_true,cond_true]
    rw[Am zq1,Ba,Am zq1,Ba,Am zq1,Ba]
    simp
def Ld:List YB:=List.replicate 16 ((0:Int),())
def I1 (k:List YB) (r:Int) (sn:List YB) (ep seq kind:Int) (p:List YB):Bool:=((k.length:Int)==32) && (E7 r sn ep seq && (inR kind 4 8 && Hc kind (p.length:Int)))
def Ff:Aq:=(0,0,[],[],0,[],[],0,0,[],[],())
def Ev (k:List YB) (r:Int) (sn:List YB) (ep seq kind:Int) (p:List YB):Aq×(Bool×Unit):=
 bif I1 k r sn ep seq kind p then((kind,0,[],sn,0,[],[],ep,seq,mix k (Da r sn ep seq) p,Ri k (Cu r (kind,0,[],sn,0,[],[],ep,seq,mix k (Da r sn ep seq) p,Ld,())),()),(true,()))else(Ff,(false,()))
theorem A91 (sn:List YB) (ep seq kind:Int) (p:List YB) (hk:inR kind 4 8=true):Cq (kind,0,[],sn,0,[],[],ep,seq,p,Ld,())=(((sn.length:Int)==12) && (inR ep 0 4294967295 && (inR seq 0 281474976710655 && Hc kind (p.length:Int)))):=by
 unfold Cq
 simp only[hk,cond_true]
 simp[Ld]
theorem Aqg (k:List YB) (r:Int) (sn:List YB) (ep seq kind:Int) (p:List YB) (h1:sn.length≤67108864) (h2:p.length≤67108864):Xe (k,()) (r,()) (sn,()) (ep,()) (seq,()) (kind,()) (p,())=some (Ev k r sn ep seq kind p):=by
 have hm:=Ajn k (Da r sn ep seq) p
 unfold Xe Anc Ev I1 E7
 simp only[Ae,Ai,Ac]
 rw[Cw _ zq2,Ag,Cw _ zq2,Ag]
 simp only[Xj,Afv,T7,Ag,Ac1,bne]
 cases ((k.length:Int)==32)with
 |false=>rfl
 |true=>
  cases inR r 0 1 with
  |false=>rfl
  |true=>
   cases hk:inR kind 4 8 with
   |false=>simp[br];rfl
   |true=>
    simp only[Bool.not_true,An,Bool.true_and]
    rw[show List.replicate (16:Int).toNat ((0:Int),())=Ld from rfl,A91 sn ep seq kind p hk,Ant,Ag,A8l,Ag]
    simp only
    rw[Nk _ _ (by simp only[Ar];simp[Ld];omega),Ag,A24,Ag]
    cases ((sn.length:Int)==12)<;>cases inR ep 0 4294967295<;>cases inR seq 0 281474976710655<;>cases Hc kind (p.length:Int)<;>rfl
theorem A26 (x:List YB) (r a b:Int) (n1 n2:List YB) (c:Int) (n3 n4:List YB) (d e:Int) (n5 n6:List YB) (kind f:Int) (n7 sn:List YB) (g:Int) (n8 n9:List YB) (ep seq:Int) (body:List YB):
  Ay Kj (x,r,(0:Int),a,b,n1,n2,c,n3,n4,d,e,n5,n6,kind,f,n7,sn,g,n8,n9,ep,seq,body,[],())=some (x,r,a,b,n1,n2,c,n3,n4,d,e,n5,n6,kind,f,n7,sn,g,n8,n9,ep,seq,body,Ld,()):=by
 exact Cp (B:=Kj) 16 (fun i=>(x,r,(i:Int),a,b,n1,n2,c,n3,n4,d,e,n5,n6,kind,f,n7,sn,g,n8,n9,ep,seq,body,List.replicate i ((0:Int),()),())) _
  (fun i hi=>by
   unfold Kj
   simp only[Ae,Ak,Ac]
   rw[Am zq0,A0,Am zq1,Ba,w64 zq0,←List.replicate_succ']
   rfl)
  (by unfold Kj;simp only[Ae,Ak,Ac];rfl)
theorem A48 (k:List YB) (r:Int) (sn:List YB) (ep seq kind:Int) (p:List YB) (h1:sn.length≤67108864) (h2:p.length≤67108864):Bh (k,()) (r,()) (sn,()) (ep,()) (seq,()) (kind,()) (p,())=some (Ev k r sn ep seq kind p):=by
 have hm:=Ajn k (Da r sn ep seq) p
 have hh:=Ke r sn ep seq
 unfold Bh Ad7 Ev I1
 simp only[Ae,Ai,Ac,Ak,List.nil_append,List.length_nil,Nat.zero_add]
 rw[Af2,Ag]
 simp only[Su,Anq,Ag,bne]
 cases ((k.length:Int)==32)with
 |false=>rfl
 |true=>
  cases hd:E7 r sn ep seq with
  |false=>
   rw[hd]at hh
   have e:((Da r sn ep seq).length:Int)==0:=by rw[hh];rfl
   rw[e];rfl
  |true=>
   rw[hd]at hh
   have e:(((Da r sn ep seq).length:Int)==0)=false:=by rw[hh];rfl
   rw[e]
   cases hk:inR kind 4 8 with
   |false=>rfl
   |true=>
    cases hb:Hc kind (p.length:Int)with
    |false=>rfl
    |true=>
     simp only[Bool.not_true,An,Bool.true_and,Bool.and_true,cond_true]
     rw[Am zq0,Ba,A8m,Ag]
     simp only
     rw[A26,Ag]
     simp only
     rw[Rk _ _ (by simp only[Ar];simp[Ld];omega),Ag,A25,Ag]
theorem Az9 (k:List YB) (r:Int) (sn:List YB) (ep seq kind:Int) (p:List YB):Ar (Ev k r sn ep seq kind p).1≤sn.length+p.length+32:=by
 have hm:=Ajn k (Da r sn ep seq) p
 have ht:=A1d k (Cu r (kind,0,[],sn,0,[],[],ep,seq,mix k (Da r sn ep seq) p,Ld,()))
 unfold Ev
 cases I1 k r sn ep seq kind p<;>simp[Ar,Ff]
 omega
theorem Abr (r:Int) (f:Aq):(Cu r f).length≤Ar f+32:=by
 have hh:=Ke r f.2.2.2.1 f.2.2.2.2.2.2.2.1 f.2.2.2.2.2.2.2.2.1
 have hle:(Da r f.2.2.2.1 f.2.2.2.2.2.2.2.1 f.2.2.2.2.2.2.2.2.1).length≤23:=by rw[hh];cases E7 r f.2.2.2.1 f.2.2.2.2.2.2.2.1 f.2.2.2.2.2.2.2.2.1<;>simp
 unfold Cu Ar
 cases (inR r 0 1 && (Cq f && inR f.1 4 8))<;>simp
 omega
end
end Go.Proofs.YtmhhajdeafijmaaGreat

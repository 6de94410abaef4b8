/-
  That the program and the reference answer alike, in plain terms, and that the laws answer true.
-/
import Derived.Test.YtjlblagmjlmglaaGreatL10
namespace Go.Proofs.YtjlblagmjlmglaaGreat
open Go.RowKit
set_option linter.unusedVariables false
set_option linter.unusedSimpArgs false
set_option maxHeartbeats 4000000
noncomputable section
def Ev (r:Int) (sn:List YB) (ep seq:Int):Bool:=inR r 0 1 && (((sn.length:Int)==12) && (inR ep 0 4294967295 && inR seq 0 281474976710655))
def Cp (r:Int) (sn:List YB) (ep seq:Int):List YB:=bif Ev r sn ep seq then(IntKind.u8.wrap r,())::(sn++(Fg ep 4 4++Fg seq 6 6))else []
theorem Ap3 (r:Int) (sn:List YB) (ep seq:Int):O7 (r,()) (sn,()) (ep,()) (seq,())=some (Cp r sn ep seq,()):=by
 unfold O7 Agt Cp Ev
 simp only[Ai,Aj,Ad,Zy,H2,B6,Al,Aet]
 cases inR r 0 1 with
 |false=>rfl
 |true=>
  cases hs:((sn.length:Int)==12)with
  |false=>rfl
  |true=>
   have hs':sn.length=12:=by simp at hs;omega
   cases inR ep 0 4294967295 with
   |false=>rfl
   |true=>
    cases inR seq 0 281474976710655 with
    |false=>rfl
    |true=>
     simp only[Bool.not_true,Aq,Bool.and_true,cond_true]
     rw[Amu _ _ zq3,Al,A24 _ _ zq3,Al,Ie _ (by simp[cat,Gf];omega) zq3,Al]
     simp[cat]
theorem Ahx (r:Int) (sn:List YB) (ep seq:Int):L3 (r,()) (sn,()) (ep,()) (seq,())=some (Cp r sn ep seq,()):=by
 unfold L3 Afs Cp Ev
 simp only[Ai,Aj,Ad,Ap,Bv,Al,bne]
 cases inR r 0 1 with
 |false=>rfl
 |true=>
  cases hs:((sn.length:Int)==12)with
  |false=>rfl
  |true=>
   have hs':sn.length=12:=by simp at hs;omega
   cases inR ep 0 4294967295 with
   |false=>rfl
   |true=>
    cases inR seq 0 281474976710655 with
    |false=>rfl
    |true=>
     simp only[Bool.not_true,Aq,Bool.and_true,cond_true]
     rw[Ao zq1,A8,Qq _ _ zq1,Al,Ba2 _ _ (by simp[Gf];omega),Al]
     simp
theorem Ja (r:Int) (sn:List YB) (ep seq:Int):(Cp r sn ep seq).length=(bif Ev r sn ep seq then 23 else 0):=by
 unfold Cp
 cases h:Ev r sn ep seq with
 |false=>rfl
 |true=>
  unfold Ev at h
  simp at h
  have:sn.length=12:=by omega
  simp[Gf,this]
def Dr (r:Int) (f:Aa):List YB:=bif inR r 0 1 && (B9 f && inR f.1 4 8)then((116:Int),())::(Cp r f.2.2.2.1 f.2.2.2.2.2.2.2.1 f.2.2.2.2.2.2.2.2.1++((IntKind.u8.wrap f.1,())::f.2.2.2.2.2.2.2.2.2.1))else []
theorem Pd (r:Int) (f:Aa) (h:Ar f≤536870912):Hd (r,()) f=some (Dr r f,()):=by
 have hh:=Ja r f.2.2.2.1 f.2.2.2.2.2.2.2.1 f.2.2.2.2.2.2.2.2.1
 simp only[Ar]at h
 unfold Hd X5 Dr
 simp only[Ai,Aj,Ad,Zy,Z2,Nt,Al,Aet,Ap3]
 cases inR r 0 1 with
 |false=>rfl
 |true=>
  cases inR f.1 4 8 with
  |false=>cases B9 f<;>rfl
  |true=>
   cases B9 f with
   |false=>rfl
   |true=>
    have hle:(Cp r f.2.2.2.1 f.2.2.2.2.2.2.2.1 f.2.2.2.2.2.2.2.2.1).length≤23:=by rw[hh];cases Ev r f.2.2.2.1 f.2.2.2.2.2.2.2.1 f.2.2.2.2.2.2.2.2.1<;>simp
    simp only[Bool.not_true,Aq,Bool.and_true,cond_true]
    rw[Ie _ (by simp[cat];omega) zq3,Al]
    simp[cat]
theorem Pe (r:Int) (f:Aa) (h:Ar f≤536870912):Ha (r,()) f=some (Dr r f,()):=by
 have hh:=Ja r f.2.2.2.1 f.2.2.2.2.2.2.2.1 f.2.2.2.2.2.2.2.2.1
 simp only[Ar]at h
 unfold Ha Xl Dr
 simp only[Ai,Aj,Ad,Ap,Bv,Nh,Ns,Al,Ahx]
 cases inR r 0 1 with
 |false=>rfl
 |true=>
  cases B9 f with
  |false=>rfl
  |true=>
   cases inR f.1 4 8 with
   |false=>rfl
   |true=>
    have hle:(Cp r f.2.2.2.1 f.2.2.2.2.2.2.2.1 f.2.2.2.2.2.2.2.2.1).length≤23:=by rw[hh];cases Ev r f.2.2.2.1 f.2.2.2.2.2.2.2.1 f.2.2.2.2.2.2.2.2.1<;>simp
    simp only[Bool.not_true,Aq,Bool.and_true,cond_true]
    rw[Ao zq1,A8,Ao zq1,A8,Ao zq1,A8]
    simp
def J4:List YB:=List.replicate 16 ((0:Int),())
def H4 (k:List YB) (r:Int) (sn:List YB) (ep seq kind:Int) (p:List YB):Bool:=((k.length:Int)==32) && (Ev r sn ep seq && (inR kind 4 8 && He kind (p.length:Int)))
def Du:Aa:=(0,0,[],[],0,[],[],0,0,[],[],())
def D6 (k:List YB) (r:Int) (sn:List YB) (ep seq kind:Int) (p:List YB):Aa×(Bool×Unit):=
 bif H4 k r sn ep seq kind p then((kind,0,[],sn,0,[],[],ep,seq,mix k (Cp r sn ep seq) p,Pb k (Dr r (kind,0,[],sn,0,[],[],ep,seq,mix k (Cp r sn ep seq) p,J4,())),()),(true,()))else(Du,(false,()))
theorem Bcd (sn:List YB) (ep seq kind:Int) (p:List YB) (hk:inR kind 4 8=true):B9 (kind,0,[],sn,0,[],[],ep,seq,p,J4,())=(((sn.length:Int)==12) && (inR ep 0 4294967295 && (inR seq 0 281474976710655 && He kind (p.length:Int)))):=by
 unfold B9
 simp only[hk,cond_true]
 simp[J4]
theorem A7c (k:List YB) (r:Int) (sn:List YB) (ep seq kind:Int) (p:List YB) (h1:sn.length≤67108864) (h2:p.length≤67108864):Zs (k,()) (r,()) (sn,()) (ep,()) (seq,()) (kind,()) (p,())=some (D6 k r sn ep seq kind p):=by
 have hm:=Alt k (Cp r sn ep seq) p
 unfold Zs Apq D6 H4 Ev
 simp only[Ai,Aj,Ad]
 rw[Cg _ zq2,Al,Cg _ zq2,Al]
 simp only[Zy,Z2,Nt,Al,Aet,bne]
 cases ((k.length:Int)==32)with
 |false=>rfl
 |true=>
  cases inR r 0 1 with
  |false=>rfl
  |true=>
   cases hk:inR kind 4 8 with
   |false=>simp[br];rfl
   |true=>
    simp only[Bool.not_true,Aq,Bool.true_and]
    rw[show List.replicate (16:Int).toNat ((0:Int),())=J4 from rfl,Bcd sn ep seq kind p hk,Ap3,Al,Baw,Al]
    simp only
    rw[Pd _ _ (by simp only[Ar];simp[J4];omega),Al,A4z,Al]
    cases ((sn.length:Int)==12)<;>cases inR ep 0 4294967295<;>cases inR seq 0 281474976710655<;>cases He kind (p.length:Int)<;>rfl
theorem A41 (x:List YB) (r a b:Int) (n1 n2:List YB) (c:Int) (n3 n4:List YB) (d e:Int) (n5 n6:List YB) (kind f:Int) (n7 sn:List YB) (g:Int) (n8 n9:List YB) (ep seq:Int) (body:List YB):
  Az Jh (x,r,(0:Int),a,b,n1,n2,c,n3,n4,d,e,n5,n6,kind,f,n7,sn,g,n8,n9,ep,seq,body,[],())=some (x,r,a,b,n1,n2,c,n3,n4,d,e,n5,n6,kind,f,n7,sn,g,n8,n9,ep,seq,body,J4,()):=by
 exact C5 (B:=Jh) 16 (fun i=>(x,r,(i:Int),a,b,n1,n2,c,n3,n4,d,e,n5,n6,kind,f,n7,sn,g,n8,n9,ep,seq,body,List.replicate i ((0:Int),()),())) _
  (fun i hi=>by
   unfold Jh
   simp only[Ai,Ap,Ad]
   rw[Ao zq0,Ax,Ao zq1,A8,w64 zq0,←List.replicate_succ']
   rfl)
  (by unfold Jh;simp only[Ai,Ap,Ad];rfl)
theorem A7d (k:List YB) (r:Int) (sn:List YB) (ep seq kind:Int) (p:List YB) (h1:sn.length≤67108864) (h2:p.length≤67108864):La (k,()) (r,()) (sn,()) (ep,()) (seq,()) (kind,()) (p,())=some (D6 k r sn ep seq kind p):=by
 have hm:=Alt k (Cp r sn ep seq) p
 have hh:=Ja r sn ep seq
 unfold La Af1 D6 H4
 simp only[Ai,Aj,Ad,Ap,List.nil_append,List.length_nil,Nat.zero_add]
 rw[Ahx,Al]
 simp only[Nh,Ap1,Al,bne]
 cases ((k.length:Int)==32)with
 |false=>rfl
 |true=>
  cases hd:Ev r sn ep seq with
  |false=>
   rw[hd]at hh
   have e:((Cp r sn ep seq).length:Int)==0:=by rw[hh];rfl
   rw[e];rfl
  |true=>
   rw[hd]at hh
   have e:(((Cp r sn ep seq).length:Int)==0)=false:=by rw[hh];rfl
   rw[e]
   cases hk:inR kind 4 8 with
   |false=>rfl
   |true=>
    cases hb:He kind (p.length:Int)with
    |false=>rfl
    |true=>
     simp only[Bool.not_true,Aq,Bool.true_and,Bool.and_true,cond_true]
     rw[Ao zq0,A8,Bax,Al]
     simp only
     rw[A41,Al]
     simp only
     rw[Pe _ _ (by simp only[Ar];simp[J4];omega),Al,A40,Al]
theorem A17 (k:List YB) (r:Int) (sn:List YB) (ep seq kind:Int) (p:List YB):Ar (D6 k r sn ep seq kind p).1≤sn.length+p.length+32:=by
 have hm:=Alt k (Cp r sn ep seq) p
 have ht:=A29 k (Dr r (kind,0,[],sn,0,[],[],ep,seq,mix k (Cp r sn ep seq) p,J4,()))
 unfold D6
 cases H4 k r sn ep seq kind p<;>simp[Ar,Du]
 omega
theorem Adb (r:Int) (f:Aa):(Dr r f).length≤Ar f+32:=by
 have hh:=Ja r f.2.2.2.1 f.2.2.2.2.2.2.2.1 f.2.2.2.2.2.2.2.2.1
 have hle:(Cp r f.2.2.2.1 f.2.2.2.2.2.2.2.1 f.2.2.2.2.2.2.2.2.1).length≤23:=by rw[hh];cases Ev r f.2.2.2.1 f.2.2.2.2.2.2.2.1 f.2.2.2.2.2.2.2.2.1<;>simp
 unfold Dr Ar
 cases (inR r 0 1 && (B9 f && inR f.1 4 8))<;>simp
 omega
end
end Go.Proofs.YtjlblagmjlmglaaGreat

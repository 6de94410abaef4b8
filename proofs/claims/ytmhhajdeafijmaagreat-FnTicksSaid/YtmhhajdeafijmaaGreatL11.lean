/-
  That the program and the reference answer alike, in plain terms, and that the laws answer true.
-/
import Derived.Test.YtmhhajdeafijmaaGreatL10
namespace Go.Proofs.YtmhhajdeafijmaaGreat
open Go.RowKit
set_option linter.unusedVariables false
set_option linter.unusedSimpArgs false
set_option maxHeartbeats 4000000
noncomputable section
def Dc (r:Int) (sn:List YB) (ep seq:Int):Bool:=inR r 0 1 && (((sn.length:Int)==12) && (inR ep 0 4294967295 && inR seq 0 281474976710655))
def Bz (r:Int) (sn:List YB) (ep seq:Int):List YB:=bif Dc r sn ep seq then(IntKind.u8.wrap r,())::(sn++(E5 ep 4 4++E5 seq 6 6))else []
theorem Aif (r:Int) (sn:List YB) (ep seq:Int):Pp (r,()) (sn,()) (ep,()) (seq,())=some (Bz r sn ep seq,()):=by
 unfold Pp Ag9 Bz Dc
 simp only[Ag,Ai,Ad,Aap,Jj,Br,Aj,Afd]
 cases inR r 0 1 with
 |false=>rfl
 |true=>
  cases hs:((sn.length:Int)==12)with
  |false=>rfl
  |true=>
   have hs':sn.length=12:=by simp at hs;omega
   cases inR ep 0 4294967295 with
   |false=>rfl
   |true=>
    cases inR seq 0 281474976710655 with
    |false=>rfl
    |true=>
     simp only[Bool.not_true,An,Bool.and_true,cond_true]
     rw[Afe _ _ zq3,Aj,A2x _ _ zq3,Aj,Is _ (by simp[cat,Gn];omega) zq3,Aj]
     simp[cat]
theorem Aig (r:Int) (sn:List YB) (ep seq:Int):L6 (r,()) (sn,()) (ep,()) (seq,())=some (Bz r sn ep seq,()):=by
 unfold L6 Agf Bz Dc
 simp only[Ag,Ai,Ad,Ao,Cb,Aj,bne]
 cases inR r 0 1 with
 |false=>rfl
 |true=>
  cases hs:((sn.length:Int)==12)with
  |false=>rfl
  |true=>
   have hs':sn.length=12:=by simp at hs;omega
   cases inR ep 0 4294967295 with
   |false=>rfl
   |true=>
    cases inR seq 0 281474976710655 with
    |false=>rfl
    |true=>
     simp only[Bool.not_true,An,Bool.and_true,cond_true]
     rw[Am zq1,A5,Rc _ _ zq1,Aj,Bai _ _ (by simp[Gn];omega),Aj]
     simp
theorem Ha (r:Int) (sn:List YB) (ep seq:Int):(Bz r sn ep seq).length=(bif Dc r sn ep seq then 23 else 0):=by
 unfold Bz
 cases h:Dc r sn ep seq with
 |false=>rfl
 |true=>
  unfold Dc at h
  simp at h
  have:sn.length=12:=by omega
  simp[Gn,this]
def Bs (r:Int) (f:Aa):List YB:=bif inR r 0 1 && (Bg f && inR f.1 4 8)then((116:Int),())::(Bz r f.2.2.2.1 f.2.2.2.2.2.2.2.1 f.2.2.2.2.2.2.2.2.1++((IntKind.u8.wrap f.1,())::f.2.2.2.2.2.2.2.2.2.1))else []
theorem Jx (r:Int) (f:Aa) (h:As f≤536870912):Hp (r,()) f=some (Bs r f,()):=by
 have hh:=Ha r f.2.2.2.1 f.2.2.2.2.2.2.2.1 f.2.2.2.2.2.2.2.2.1
 simp only[As]at h
 unfold Hp Zo Bs
 simp only[Ag,Ai,Ad,Aap,Rd,Ic,Aj,Afd,Aif]
 cases inR r 0 1 with
 |false=>rfl
 |true=>
  cases inR f.1 4 8 with
  |false=>cases Bg f<;>rfl
  |true=>
   cases Bg f with
   |false=>rfl
   |true=>
    have hle:(Bz r f.2.2.2.1 f.2.2.2.2.2.2.2.1 f.2.2.2.2.2.2.2.2.1).length≤23:=by rw[hh];cases Dc r f.2.2.2.1 f.2.2.2.2.2.2.2.1 f.2.2.2.2.2.2.2.2.1<;>simp
    simp only[Bool.not_true,An,Bool.and_true,cond_true]
    rw[Is _ (by simp[cat];omega) zq3,Aj]
    simp[cat]
theorem Pw (r:Int) (f:Aa) (h:As f≤536870912):Hn (r,()) f=some (Bs r f,()):=by
 have hh:=Ha r f.2.2.2.1 f.2.2.2.2.2.2.2.1 f.2.2.2.2.2.2.2.2.1
 simp only[As]at h
 unfold Hn X9 Bs
 simp only[Ag,Ai,Ad,Ao,Cb,Ln,Lo,Aj,Aig]
 cases inR r 0 1 with
 |false=>rfl
 |true=>
  cases Bg f with
  |false=>rfl
  |true=>
   cases inR f.1 4 8 with
   |false=>rfl
   |true=>
    have hle:(Bz r f.2.2.2.1 f.2.2.2.2.2.2.2.1 f.2.2.2.2.2.2.2.2.1).length≤23:=by rw[hh];cases Dc r f.2.2.2.1 f.2.2.2.2.2.2.2.1 f.2.2.2.2.2.2.2.2.1<;>simp
    simp only[Bool.not_true,An,Bool.and_true,cond_true]
    rw[Am zq1,A5,Am zq1,A5,Am zq1,A5]
    simp
def Gr:List YB:=List.replicate 16 ((0:Int),())
def D7 (k:List YB) (r:Int) (sn:List YB) (ep seq kind:Int) (p:List YB):Bool:=((k.length:Int)==32) && (Dc r sn ep seq && (inR kind 4 8 && Ft kind (p.length:Int)))
def Dz:Aa:=(0,0,[],[],0,[],[],0,0,[],[],())
def Be (k:List YB) (r:Int) (sn:List YB) (ep seq kind:Int) (p:List YB):Aa×(Bool×Unit):=
 bif D7 k r sn ep seq kind p then((kind,0,[],sn,0,[],[],ep,seq,mix k (Bz r sn ep seq) p,Jw k (Bs r (kind,0,[],sn,0,[],[],ep,seq,mix k (Bz r sn ep seq) p,Gr,())),()),(true,()))else(Dz,(false,()))
theorem Bbx (sn:List YB) (ep seq kind:Int) (p:List YB) (hk:inR kind 4 8=true):Bg (kind,0,[],sn,0,[],[],ep,seq,p,Gr,())=(((sn.length:Int)==12) && (inR ep 0 4294967295 && (inR seq 0 281474976710655 && Ft kind (p.length:Int)))):=by
 unfold Bg
 simp only[hk,cond_true]
 simp[Gr]
theorem A6t (k:List YB) (r:Int) (sn:List YB) (ep seq kind:Int) (p:List YB) (h1:sn.length≤67108864) (h2:p.length≤67108864):Aah (k,()) (r,()) (sn,()) (ep,()) (seq,()) (kind,()) (p,())=some (Be k r sn ep seq kind p):=by
 have hm:=Al1 k (Bz r sn ep seq) p
 unfold Aah Apv Be D7 Dc
 simp only[Ag,Ai,Ad]
 rw[Cd _ zq2,Aj,Cd _ zq2,Aj]
 simp only[Aap,Rd,Ic,Aj,Afd,bne]
 cases ((k.length:Int)==32)with
 |false=>rfl
 |true=>
  cases inR r 0 1 with
  |false=>rfl
  |true=>
   cases hk:inR kind 4 8 with
   |false=>simp[br];rfl
   |true=>
    simp only[Bool.not_true,An,Bool.true_and]
    rw[show List.replicate (16:Int).toNat ((0:Int),())=Gr from rfl,Bbx sn ep seq kind p hk,Aif,Aj,A4k,Aj]
    simp only
    rw[Jx _ _ (by simp only[As];simp[Gr];omega),Aj,Axn,Aj]
    cases ((sn.length:Int)==12)<;>cases inR ep 0 4294967295<;>cases inR seq 0 281474976710655<;>cases Ft kind (p.length:Int)<;>rfl
theorem A4l (x:List YB) (r a b:Int) (n1 n2:List YB) (c:Int) (n3 n4:List YB) (d e:Int) (n5 n6:List YB) (kind f:Int) (n7 sn:List YB) (g:Int) (n8 n9:List YB) (ep seq:Int) (body:List YB):
  Ay Jp (x,r,(0:Int),a,b,n1,n2,c,n3,n4,d,e,n5,n6,kind,f,n7,sn,g,n8,n9,ep,seq,body,[],())=some (x,r,a,b,n1,n2,c,n3,n4,d,e,n5,n6,kind,f,n7,sn,g,n8,n9,ep,seq,body,Gr,()):=by
 exact Cq (B:=Jp) 16 (fun i=>(x,r,(i:Int),a,b,n1,n2,c,n3,n4,d,e,n5,n6,kind,f,n7,sn,g,n8,n9,ep,seq,body,List.replicate i ((0:Int),()),())) _
  (fun i hi=>by
   unfold Jp
   simp only[Ag,Ao,Ad]
   rw[Am zq0,Aw,Am zq1,A5,w64 zq0,←List.replicate_succ']
   rfl)
  (by unfold Jp;simp only[Ag,Ao,Ad];rfl)
theorem Ay8 (k:List YB) (r:Int) (sn:List YB) (ep seq kind:Int) (p:List YB) (h1:sn.length≤67108864) (h2:p.length≤67108864):Lf (k,()) (r,()) (sn,()) (ep,()) (seq,()) (kind,()) (p,())=some (Be k r sn ep seq kind p):=by
 have hm:=Al1 k (Bz r sn ep seq) p
 have hh:=Ha r sn ep seq
 unfold Lf Ago Be D7
 simp only[Ag,Ai,Ad,Ao,List.nil_append,List.length_nil,Nat.zero_add]
 rw[Aig,Aj]
 simp only[Ln,Aqc,Aj,bne]
 cases ((k.length:Int)==32)with
 |false=>rfl
 |true=>
  cases hd:Dc r sn ep seq with
  |false=>
   rw[hd]at hh
   have e:((Bz r sn ep seq).length:Int)==0:=by rw[hh];rfl
   rw[e];rfl
  |true=>
   rw[hd]at hh
   have e:(((Bz r sn ep seq).length:Int)==0)=false:=by rw[hh];rfl
   rw[e]
   cases hk:inR kind 4 8 with
   |false=>rfl
   |true=>
    cases hb:Ft kind (p.length:Int)with
    |false=>rfl
    |true=>
     simp only[Bool.not_true,An,Bool.true_and,Bool.and_true,cond_true]
     rw[Am zq0,A5,Baa,Aj]
     simp only
     rw[A4l,Aj]
     simp only
     rw[Pw _ _ (by simp only[As];simp[Gr];omega),Aj,A4j,Aj]
theorem Nb (k:List YB) (r:Int) (sn:List YB) (ep seq kind:Int) (p:List YB):As (Be k r sn ep seq kind p).1≤sn.length+p.length+32:=by
 have hm:=Al1 k (Bz r sn ep seq) p
 have ht:=A22 k (Bs r (kind,0,[],sn,0,[],[],ep,seq,mix k (Bz r sn ep seq) p,Gr,()))
 unfold Be
 cases D7 k r sn ep seq kind p<;>simp[As,Dz]
 omega
theorem Sd (r:Int) (f:Aa):(Bs r f).length≤As f+32:=by
 have hh:=Ha r f.2.2.2.1 f.2.2.2.2.2.2.2.1 f.2.2.2.2.2.2.2.2.1
 have hle:(Bz r f.2.2.2.1 f.2.2.2.2.2.2.2.1 f.2.2.2.2.2.2.2.2.1).length≤23:=by rw[hh];cases Dc r f.2.2.2.1 f.2.2.2.2.2.2.2.1 f.2.2.2.2.2.2.2.2.1<;>simp
 unfold Bs As
 cases (inR r 0 1 && (Bg f && inR f.1 4 8))<;>simp
 omega
end
end Go.Proofs.YtmhhajdeafijmaaGreat

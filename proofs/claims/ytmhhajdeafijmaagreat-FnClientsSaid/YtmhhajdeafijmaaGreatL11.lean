/-
  That the program and the reference answer alike, in plain terms, and that the laws answer true.
-/
import Derived.Test.YtmhhajdeafijmaaGreatL10
namespace Go.Proofs.YtmhhajdeafijmaaGreat
open Go.RowKit
set_option linter.unusedVariables false
set_option linter.unusedSimpArgs false
set_option maxHeartbeats 4000000
noncomputable section
def Eo (r:Int) (sn:List YB) (ep seq:Int):Bool:=inR r 0 1 && (((sn.length:Int)==12) && (inR ep 0 4294967295 && inR seq 0 281474976710655))
def Cr (r:Int) (sn:List YB) (ep seq:Int):List YB:=bif Eo r sn ep seq then(IntKind.u8.wrap r,())::(sn++(Fb ep 4 4++Fb seq 6 6))else []
theorem Aqj (r:Int) (sn:List YB) (ep seq:Int):Ol (r,()) (sn,()) (ep,()) (seq,())=some (Cr r sn ep seq,()):=by
 unfold Ol Ag8 Cr Eo
 simp only[Aj,Al,Af,Z3,I4,Ch,An,Aey]
 cases inR r 0 1 with
 |false=>rfl
 |true=>
  cases hs:((sn.length:Int)==12)with
  |false=>rfl
  |true=>
   have hs':sn.length=12:=by simp at hs;omega
   cases inR ep 0 4294967295 with
   |false=>rfl
   |true=>
    cases inR seq 0 281474976710655 with
    |false=>rfl
    |true=>
     simp only[Bool.not_true,Aw,Bool.and_true,cond_true]
     rw[Anb _ _ zq3,An,A3f _ _ zq3,An,H8 _ (by simp[cat,F7];omega) zq3,An]
     simp[cat]
theorem Aif (r:Int) (sn:List YB) (ep seq:Int):Lo (r,()) (sn,()) (ep,()) (seq,())=some (Cr r sn ep seq,()):=by
 unfold Lo Afv Cr Eo
 simp only[Aj,Al,Af,Aq,Cz,An,bne]
 cases inR r 0 1 with
 |false=>rfl
 |true=>
  cases hs:((sn.length:Int)==12)with
  |false=>rfl
  |true=>
   have hs':sn.length=12:=by simp at hs;omega
   cases inR ep 0 4294967295 with
   |false=>rfl
   |true=>
    cases inR seq 0 281474976710655 with
    |false=>rfl
    |true=>
     simp only[Bool.not_true,Aw,Bool.and_true,cond_true]
     rw[Ap zq1,Bd,Qr _ _ zq1,An,Ba6 _ _ (by simp[F7];omega),An]
     simp
theorem I6 (r:Int) (sn:List YB) (ep seq:Int):(Cr r sn ep seq).length=(bif Eo r sn ep seq then 23 else 0):=by
 unfold Cr
 cases h:Eo r sn ep seq with
 |false=>rfl
 |true=>
  unfold Eo at h
  simp at h
  have:sn.length=12:=by omega
  simp[F7,this]
def Do (r:Int) (f:Ab):List YB:=bif inR r 0 1 && (Cc f && inR f.1 4 8)then((116:Int),())::(Cr r f.2.2.2.1 f.2.2.2.2.2.2.2.1 f.2.2.2.2.2.2.2.2.1++((IntKind.u8.wrap f.1,())::f.2.2.2.2.2.2.2.2.2.1))else []
theorem Pg (r:Int) (f:Ab) (h:Ar f≤536870912):G6 (r,()) f=some (Do r f,()):=by
 have hh:=I6 r f.2.2.2.1 f.2.2.2.2.2.2.2.1 f.2.2.2.2.2.2.2.2.1
 simp only[Ar]at h
 unfold G6 Zi Do
 simp only[Aj,Al,Af,Z3,Z6,La,An,Aey,Aqj]
 cases inR r 0 1 with
 |false=>rfl
 |true=>
  cases inR f.1 4 8 with
  |false=>cases Cc f<;>rfl
  |true=>
   cases Cc f with
   |false=>rfl
   |true=>
    have hle:(Cr r f.2.2.2.1 f.2.2.2.2.2.2.2.1 f.2.2.2.2.2.2.2.2.1).length≤23:=by rw[hh];cases Eo r f.2.2.2.1 f.2.2.2.2.2.2.2.1 f.2.2.2.2.2.2.2.2.1<;>simp
    simp only[Bool.not_true,Aw,Bool.and_true,cond_true]
    rw[H8 _ (by simp[cat];omega) zq3,An]
    simp[cat]
theorem Ph (r:Int) (f:Ab) (h:Ar f≤536870912):Gx (r,()) f=some (Do r f,()):=by
 have hh:=I6 r f.2.2.2.1 f.2.2.2.2.2.2.2.1 f.2.2.2.2.2.2.2.2.1
 simp only[Ar]at h
 unfold Gx Xm Do
 simp only[Aj,Al,Af,Aq,Cz,Na,No,An,Aif]
 cases inR r 0 1 with
 |false=>rfl
 |true=>
  cases Cc f with
  |false=>rfl
  |true=>
   cases inR f.1 4 8 with
   |false=>rfl
   |true=>
    have hle:(Cr r f.2.2.2.1 f.2.2.2.2.2.2.2.1 f.2.2.2.2.2.2.2.2.1).length≤23:=by rw[hh];cases Eo r f.2.2.2.1 f.2.2.2.2.2.2.2.1 f.2.2.2.2.2.2.2.2.1<;>simp
    simp only[Bool.not_true,Aw,Bool.and_true,cond_true]
    rw[Ap zq1,Bd,Ap zq1,Bd,Ap zq1,Bd]
    simp
def J1:List YB:=List.replicate 16 ((0:Int),())
def Hx (k:List YB) (r:Int) (sn:List YB) (ep seq kind:Int) (p:List YB):Bool:=((k.length:Int)==32) && (Eo r sn ep seq && (inR kind 4 8 && G8 kind (p.length:Int)))
def Dp:Ab:=(0,0,[],[],0,[],[],0,0,[],[],())
def Dx (k:List YB) (r:Int) (sn:List YB) (ep seq kind:Int) (p:List YB):Ab×(Bool×Unit):=
 bif Hx k r sn ep seq kind p then((kind,0,[],sn,0,[],[],ep,seq,mix k (Cr r sn ep seq) p,Pe k (Do r (kind,0,[],sn,0,[],[],ep,seq,mix k (Cr r sn ep seq) p,J1,())),()),(true,()))else(Dp,(false,()))
theorem Bcf (sn:List YB) (ep seq kind:Int) (p:List YB) (hk:inR kind 4 8=true):Cc (kind,0,[],sn,0,[],[],ep,seq,p,J1,())=(((sn.length:Int)==12) && (inR ep 0 4294967295 && (inR seq 0 281474976710655 && G8 kind (p.length:Int)))):=by
 unfold Cc
 simp only[hk,cond_true]
 simp[J1]
theorem A7i (k:List YB) (r:Int) (sn:List YB) (ep seq kind:Int) (p:List YB) (h1:sn.length≤67108864) (h2:p.length≤67108864):Zk (k,()) (r,()) (sn,()) (ep,()) (seq,()) (kind,()) (p,())=some (Dx k r sn ep seq kind p):=by
 have hm:=Amb k (Cr r sn ep seq) p
 unfold Zk Ap3 Dx Hx Eo
 simp only[Aj,Al,Af]
 rw[C4 _ zq2,An,C4 _ zq2,An]
 simp only[Z3,Z6,La,An,Aey,bne]
 cases ((k.length:Int)==32)with
 |false=>rfl
 |true=>
  cases inR r 0 1 with
  |false=>rfl
  |true=>
   cases hk:inR kind 4 8 with
   |false=>simp[br];rfl
   |true=>
    simp only[Bool.not_true,Aw,Bool.true_and]
    rw[show List.replicate (16:Int).toNat ((0:Int),())=J1 from rfl,Bcf sn ep seq kind p hk,Aqj,An,Ba0,An]
    simp only
    rw[Pg _ _ (by simp only[Ar];simp[J1];omega),An,A47,An]
    cases ((sn.length:Int)==12)<;>cases inR ep 0 4294967295<;>cases inR seq 0 281474976710655<;>cases G8 kind (p.length:Int)<;>rfl
theorem A49 (x:List YB) (r a b:Int) (n1 n2:List YB) (c:Int) (n3 n4:List YB) (d e:Int) (n5 n6:List YB) (kind f:Int) (n7 sn:List YB) (g:Int) (n8 n9:List YB) (ep seq:Int) (body:List YB):
  A1 Jc (x,r,(0:Int),a,b,n1,n2,c,n3,n4,d,e,n5,n6,kind,f,n7,sn,g,n8,n9,ep,seq,body,[],())=some (x,r,a,b,n1,n2,c,n3,n4,d,e,n5,n6,kind,f,n7,sn,g,n8,n9,ep,seq,body,J1,()):=by
 exact Cv (B:=Jc) 16 (fun i=>(x,r,(i:Int),a,b,n1,n2,c,n3,n4,d,e,n5,n6,kind,f,n7,sn,g,n8,n9,ep,seq,body,List.replicate i ((0:Int),()),())) _
  (fun i hi=>by
   unfold Jc
   simp only[Aj,Aq,Af]
   rw[Ap zq0,Az,Ap zq1,Bd,w64 zq0,←List.replicate_succ']
   rfl)
  (by unfold Jc;simp only[Aj,Aq,Af];rfl)
theorem A7j (k:List YB) (r:Int) (sn:List YB) (ep seq kind:Int) (p:List YB) (h1:sn.length≤67108864) (h2:p.length≤67108864):Bl (k,()) (r,()) (sn,()) (ep,()) (seq,()) (kind,()) (p,())=some (Dx k r sn ep seq kind p):=by
 have hm:=Amb k (Cr r sn ep seq) p
 have hh:=I6 r sn ep seq
 unfold Bl Af4 Dx Hx
 simp only[Aj,Al,Af,Aq,List.nil_append,List.length_nil,Nat.zero_add]
 rw[Aif,An]
 simp only[Na,Aqh,An,bne]
 cases ((k.length:Int)==32)with
 |false=>rfl
 |true=>
  cases hd:Eo r sn ep seq with
  |false=>
   rw[hd]at hh
   have e:((Cr r sn ep seq).length:Int)==0:=by rw[hh];rfl
   rw[e];rfl
  |true=>
   rw[hd]at hh
   have e:(((Cr r sn ep seq).length:Int)==0)=false:=by rw[hh];rfl
   rw[e]
   cases hk:inR kind 4 8 with
   |false=>rfl
   |true=>
    cases hb:G8 kind (p.length:Int)with
    |false=>rfl
    |true=>
     simp only[Bool.not_true,Aw,Bool.true_and,Bool.and_true,cond_true]
     rw[Ap zq0,Bd,Ba1,An]
     simp only
     rw[A49,An]
     simp only
     rw[Ph _ _ (by simp only[Ar];simp[J1];omega),An,A48,An]
theorem A2j (k:List YB) (r:Int) (sn:List YB) (ep seq kind:Int) (p:List YB):Ar (Dx k r sn ep seq kind p).1≤sn.length+p.length+32:=by
 have hm:=Amb k (Cr r sn ep seq) p
 have ht:=A3k k (Do r (kind,0,[],sn,0,[],[],ep,seq,mix k (Cr r sn ep seq) p,J1,()))
 unfold Dx
 cases Hx k r sn ep seq kind p<;>simp[Ar,Dp]
 omega
theorem Adn (r:Int) (f:Ab):(Do r f).length≤Ar f+32:=by
 have hh:=I6 r f.2.2.2.1 f.2.2.2.2.2.2.2.1 f.2.2.2.2.2.2.2.2.1
 have hle:(Cr r f.2.2.2.1 f.2.2.2.2.2.2.2.1 f.2.2.2.2.2.2.2.2.1).length≤23:=by rw[hh];cases Eo r f.2.2.2.1 f.2.2.2.2.2.2.2.1 f.2.2.2.2.2.2.2.2.1<;>simp
 unfold Do Ar
 cases (inR r 0 1 && (Cc f && inR f.1 4 8))<;>simp
 omega
end
end Go.Proofs.YtmhhajdeafijmaaGreat

/-
  That the program and the reference answer alike, in plain terms, and that the laws answer true.
-/
import Derived.Test.YtmhhajdeafijmaaL10
namespace Go.Proofs.Ytmhhajdeafijmaa
open Go.RowKit
set_option linter.unusedVariables false
set_option linter.unusedSimpArgs false
set_option maxHeartbeats 4000000
noncomputable section
def C7 (r:Int) (sn:List YB) (ep seq:Int):Bool:=inR r 0 1 && (((sn.length:Int)==12) && (inR ep 0 4294967295 && inR seq 0 281474976710655))
def A9 (r:Int) (sn:List YB) (ep seq:Int):List YB:=bif C7 r sn ep seq then(IntKind.u8.wrap r,())::(sn++(Bm ep 4 4++Bm seq 6 6))else []
theorem Um (r:Int) (sn:List YB) (ep seq:Int):H9 (r,()) (sn,()) (ep,()) (seq,())=some (A9 r sn ep seq,()):=by
 unfold H9 Ow A9 C7
 simp only[Ad,Af,Ac,Uj,Zs,Ej,Ae,Xl]
 cases inR r 0 1 with
 |false=>rfl
 |true=>
  cases hs:((sn.length:Int)==12)with
  |false=>rfl
  |true=>
   have hs':sn.length=12:=by simp at hs;omega
   cases inR ep 0 4294967295 with
   |false=>rfl
   |true=>
    cases inR seq 0 281474976710655 with
    |false=>rfl
    |true=>
     simp only[Bool.not_true,Am,Bool.and_true,cond_true]
     rw[I9 _ _ zq1,Ae,Sq _ _ zq1,Ae,Da _ zq2 zq1,Ae]
     simp[cat]
theorem Ab1 (r:Int) (sn:List YB) (ep seq:Int):Kc (r,()) (sn,()) (ep,()) (seq,())=some (A9 r sn ep seq,()):=by
 unfold Kc O4 A9 C7
 simp only[Ad,Af,Ac,Aj,Lf,Ae,bne]
 cases inR r 0 1 with
 |false=>rfl
 |true=>
  cases hs:((sn.length:Int)==12)with
  |false=>rfl
  |true=>
   have hs':sn.length=12:=by simp at hs;omega
   cases inR ep 0 4294967295 with
   |false=>rfl
   |true=>
    cases inR seq 0 281474976710655 with
    |false=>rfl
    |true=>
     simp only[Bool.not_true,Am,Bool.and_true,cond_true]
     rw[Ah zq3,Aw,N5 _ _ zq3,Ae,Ajy _ _ (by simp[Ei];omega),Ae]
     simp
theorem Gd (r:Int) (sn:List YB) (ep seq:Int):(A9 r sn ep seq).length=(bif C7 r sn ep seq then 23 else 0):=by
 unfold A9
 cases h:C7 r sn ep seq with
 |false=>rfl
 |true=>
  unfold C7 at h
  simp at h
  have:sn.length=12:=by omega
  simp[Ei,this]
def A4 (r:Int) (f:Bc):List YB:=bif inR r 0 1 && (Ck f && inR f.1 4 8)then((116:Int),())::(A9 r f.2.2.2.1 f.2.2.2.2.2.2.2.1 f.2.2.2.2.2.2.2.2.1++((IntKind.u8.wrap f.1,())::f.2.2.2.2.2.2.2.2.2.1))else []
theorem Px (r:Int) (f:Bc) (h:Bo f≤536870912):Fy (r,()) f=some (A4 r f,()):=by
 have hh:=Gd r f.2.2.2.1 f.2.2.2.2.2.2.2.1 f.2.2.2.2.2.2.2.2.1
 simp only[Bo]at h
 unfold Fy Kv A4
 simp only[Ad,Af,Ac,Uj,Uk,Rs,Ae,Xl,Um]
 cases inR r 0 1 with
 |false=>rfl
 |true=>
  cases inR f.1 4 8 with
  |false=>cases Ck f<;>rfl
  |true=>
   cases Ck f with
   |false=>rfl
   |true=>
    have hle:(A9 r f.2.2.2.1 f.2.2.2.2.2.2.2.1 f.2.2.2.2.2.2.2.2.1).length≤23:=by rw[hh];cases C7 r f.2.2.2.1 f.2.2.2.2.2.2.2.1 f.2.2.2.2.2.2.2.2.1<;>simp
    simp only[Bool.not_true,Am,Bool.and_true,cond_true]
    rw[Da _ (by simp[cat];omega) zq1,Ae]
    simp[cat]
theorem Afy (r:Int) (f:Bc) (h:Bo f≤536870912):K0 (r,()) f=some (A4 r f,()):=by
 have hh:=Gd r f.2.2.2.1 f.2.2.2.2.2.2.2.1 f.2.2.2.2.2.2.2.2.1
 simp only[Bo]at h
 unfold K0 Kz A4
 simp only[Ad,Af,Ac,Aj,Lf,Ul,Ahe,Ae,Ab1]
 cases inR r 0 1 with
 |false=>rfl
 |true=>
  cases Ck f with
  |false=>rfl
  |true=>
   cases inR f.1 4 8 with
   |false=>rfl
   |true=>
    have hle:(A9 r f.2.2.2.1 f.2.2.2.2.2.2.2.1 f.2.2.2.2.2.2.2.2.1).length≤23:=by rw[hh];cases C7 r f.2.2.2.1 f.2.2.2.2.2.2.2.1 f.2.2.2.2.2.2.2.2.1<;>simp
    simp only[Bool.not_true,Am,Bool.and_true,cond_true]
    rw[Ah zq3,Aw,Ah zq3,Aw,Ah zq3,Aw]
    simp
def Dy:List YB:=List.replicate 16 ((0:Int),())
def Fk (k:List YB) (r:Int) (sn:List YB) (ep seq kind:Int) (p:List YB):Bool:=((k.length:Int)==32) && (C7 r sn ep seq && (inR kind 4 8 && Er kind (p.length:Int)))
def Aem:Bc:=(0,0,[],[],0,[],[],0,0,[],[],())
def Av (k:List YB) (r:Int) (sn:List YB) (ep seq kind:Int) (p:List YB):Bc×(Bool×Unit):=
 bif Fk k r sn ep seq kind p then((kind,0,[],sn,0,[],[],ep,seq,mix k (A9 r sn ep seq) p,Fd k (A4 r (kind,0,[],sn,0,[],[],ep,seq,mix k (A9 r sn ep seq) p,Dy,())),()),(true,()))else(Aem,(false,()))
theorem Ak0 (sn:List YB) (ep seq kind:Int) (p:List YB) (hk:inR kind 4 8=true):Ck (kind,0,[],sn,0,[],[],ep,seq,p,Dy,())=(((sn.length:Int)==12) && (inR ep 0 4294967295 && (inR seq 0 281474976710655 && Er kind (p.length:Int)))):=by
 unfold Ck
 simp only[hk,cond_true]
 simp[Dy]
theorem Ahp (k:List YB) (r:Int) (sn:List YB) (ep seq kind:Int) (p:List YB) (h1:sn.length≤67108864) (h2:p.length≤67108864):O3 (k,()) (r,()) (sn,()) (ep,()) (seq,()) (kind,()) (p,())=some (Av k r sn ep seq kind p):=by
 have hm:=Ab0 k (A9 r sn ep seq) p
 unfold O3 T1 Av Fk C7
 simp only[Ad,Af,Ac]
 rw[I8 _ zq5,Ae,I8 _ zq5,Ae]
 simp only[Uj,Uk,Rs,Ae,Xl,bne]
 cases ((k.length:Int)==32)with
 |false=>rfl
 |true=>
  cases inR r 0 1 with
  |false=>rfl
  |true=>
   cases hk:inR kind 4 8 with
   |false=>simp[br];rfl
   |true=>
    simp only[Bool.not_true,Am,Bool.true_and]
    rw[show List.replicate (16:Int).toNat ((0:Int),())=Dy from rfl,Ak0 sn ep seq kind p hk,Um,Ae,Ajv,Ae]
    simp only
    rw[Px _ _ (by simp only[Bo];simp[Dy];omega),Ae,Afx,Ae]
    cases ((sn.length:Int)==12)<;>cases inR ep 0 4294967295<;>cases inR seq 0 281474976710655<;>cases Er kind (p.length:Int)<;>rfl
theorem Afz (x:List YB) (r a b:Int) (n1 n2:List YB) (c:Int) (n3 n4:List YB) (d e:Int) (n5 n6:List YB) (kind f:Int) (n7 sn:List YB) (g:Int) (n8 n9:List YB) (ep seq:Int) (body:List YB):
  Al Fa (x,r,(0:Int),a,b,n1,n2,c,n3,n4,d,e,n5,n6,kind,f,n7,sn,g,n8,n9,ep,seq,body,[],())=some (x,r,a,b,n1,n2,c,n3,n4,d,e,n5,n6,kind,f,n7,sn,g,n8,n9,ep,seq,body,Dy,()):=by
 exact By (B:=Fa) 16 (fun i=>(x,r,(i:Int),a,b,n1,n2,c,n3,n4,d,e,n5,n6,kind,f,n7,sn,g,n8,n9,ep,seq,body,List.replicate i ((0:Int),()),())) _
  (fun i hi=>by
   unfold Fa
   simp only[Ad,Aj,Ac]
   rw[Ah zq0,Ay,Ah zq3,Aw,w64 zq0,←List.replicate_succ']
   rfl)
  (by unfold Fa;simp only[Ad,Aj,Ac];rfl)
theorem Ak1 (k:List YB) (r:Int) (sn:List YB) (ep seq kind:Int) (p:List YB) (h1:sn.length≤67108864) (h2:p.length≤67108864):T7 (k,()) (r,()) (sn,()) (ep,()) (seq,()) (kind,()) (p,())=some (Av k r sn ep seq kind p):=by
 have hm:=Ab0 k (A9 r sn ep seq) p
 have hh:=Gd r sn ep seq
 unfold T7 Pa Av Fk
 simp only[Ad,Af,Ac,Aj,List.nil_append,List.length_nil,Nat.zero_add]
 rw[Ab1,Ae]
 simp only[Ul,Abs,Ae,bne]
 cases ((k.length:Int)==32)with
 |false=>rfl
 |true=>
  cases hd:C7 r sn ep seq with
  |false=>
   rw[hd]at hh
   have e:((A9 r sn ep seq).length:Int)==0:=by rw[hh];rfl
   rw[e];rfl
  |true=>
   rw[hd]at hh
   have e:(((A9 r sn ep seq).length:Int)==0)=false:=by rw[hh];rfl
   rw[e]
   cases hk:inR kind 4 8 with
   |false=>rfl
   |true=>
    cases hb:Er kind (p.length:Int)with
    |false=>rfl
    |true=>
     simp only[Bool.not_true,Am,Bool.true_and,Bool.and_true,cond_true]
     rw[Ah zq0,Aw,Alx,Ae]
     simp only
     rw[Afz,Ae]
     simp only
     rw[Afy _ _ (by simp only[Bo];simp[Dy];omega),Ae,Alw,Ae]
def Gw (k:List YB) (n r:Int) (sn:List YB) (ep seq kind:Int) (p:List YB):List YOp:=
 bif (Av k r sn ep seq kind p).2.1 && inR n 0 11 then
  [((1:Int),(0:Int),(0:Int),(IntKind.u8.wrap kind,())::(sn++(Bm ep 4 4++Bm seq 6 6)),()),((3:Int),n,(0:Int),[],()),((1:Int),(0:Int),(0:Int),A4 r (Av k r sn ep seq kind p).1,()),((8:Int),(0:Int),(0:Int),[],()),((5:Int),(0:Int),(0:Int),[],()),
   ((1:Int),(0:Int),(0:Int),(Av k r sn ep seq kind p).1.2.2.2.2.2.2.2.2.2.1,()),((5:Int),(0:Int),(0:Int),[],())]
 else []
theorem Jn (k:List YB) (r:Int) (sn:List YB) (ep seq kind:Int) (p:List YB):Bo (Av k r sn ep seq kind p).1≤sn.length+p.length+32:=by
 have hm:=Ab0 k (A9 r sn ep seq) p
 have ht:=Aj3 k (A4 r (kind,0,[],sn,0,[],[],ep,seq,mix k (A9 r sn ep seq) p,Dy,()))
 unfold Av
 cases Fk k r sn ep seq kind p<;>simp[Bo,Aem]
 omega
theorem Aj4 (k:List YB) (n r:Int) (sn:List YB) (ep seq kind:Int) (p:List YB) (h1:sn.length≤67108864) (h2:p.length≤67108864):Q5 (k,()) (n,()) (r,()) (sn,()) (ep,()) (seq,()) (kind,()) (p,())=some (Gw k n r sn ep seq kind p,()):=by
 have hn:=Jn k r sn ep seq kind p
 unfold Q5 Q4 Gw
 simp only[Ad,Af,Ac]
 rw[Ahp _ _ _ _ _ _ _ h1 h2,Ae]
 simp only[Ej,Ae]
 cases (Av k r sn ep seq kind p).2.1 with
 |false=>rfl
 |true=>
  cases inR n 0 11 with
  |false=>rfl
  |true=>
   simp only[Bool.not_true,Am,Bool.and_true,cond_true]
   rw[I9 _ _ zq1,Ae,Sq _ _ zq1,Ae,Da _ zq2 zq1,Ae,Px _ _ zq0,Ae]
   simp[cat]
theorem Ni (r:Int) (f:Bc):(A4 r f).length≤Bo f+32:=by
 have hh:=Gd r f.2.2.2.1 f.2.2.2.2.2.2.2.1 f.2.2.2.2.2.2.2.2.1
 have hle:(A9 r f.2.2.2.1 f.2.2.2.2.2.2.2.1 f.2.2.2.2.2.2.2.2.1).length≤23:=by rw[hh];cases C7 r f.2.2.2.1 f.2.2.2.2.2.2.2.1 f.2.2.2.2.2.2.2.2.1<;>simp
 unfold A4 Bo
 cases (inR r 0 1 && (Ck f && inR f.1 4 8))<;>simp
 omega
end
end Go.Proofs.Ytmhhajdeafijmaa

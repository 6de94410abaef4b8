/-
  That the program and the reference answer alike, in plain terms, and that the laws answer true.
-/
import Derived.Test.YthccfdmiejmbaaaDoorL110
namespace Go.Proofs.YthccfdmiejmbaaaDoor
open Go.RowKit
set_option linter.unusedVariables false
set_option linter.unusedSimpArgs false
set_option maxRecDepth 100000
set_option maxHeartbeats 8000000
noncomputable section
def mB (n:Int):Int:=IntKind.i64.wrap ((BitVec.ofInt (IntKind.i64.bits) n &&& BitVec.ofInt (IntKind.i64.bits) ((255:Int))).toNat:Nat)
theorem Ad9 (n:Int):mB n=(((BitVec.ofInt 64 n).toNat &&& 255:Nat):Int):=by
 have h:(BitVec.ofInt 64 n &&& BitVec.ofInt 64 (255:Int)).toNat=(BitVec.ofInt 64 n).toNat &&& 255:=by
  rw[BitVec.toNat_and]
  rfl
 have hle:(BitVec.ofInt 64 n).toNat &&& 255<=255:=Nat.and_le_right
 unfold mB
 show IntKind.i64.wrap (((BitVec.ofInt 64 n &&& BitVec.ofInt 64 (255:Int)).toNat:Nat):Int)=_
 rw[h,w64 zq1]
theorem Hs (n:Int):0<=mB n/\mB n<=255:=by
 rw[Ad9]
 have hle:(BitVec.ofInt 64 n).toNat &&& 255<=255:=Nat.and_le_right
 omega
theorem Aii (n:Int) (h0:0<=n) (h1:n<=255):mB n=n:=by
 rw[Ad9]
 have e:(BitVec.ofInt 64 n).toNat=n.toNat:=by
  rw[BitVec.toNat_ofInt]
  omega
 rw[e,show(255:Nat)=2^8-1 from rfl,Nat.and_two_pow_sub_one_eq_mod]
 omega
def xB (h:Int) (j:Nat):ByteArray:=Eb (mB (Int.fdiv h (2^(min j IntKind.i64.bits))))
theorem Dz (h:Int) (j:Nat):(xB h j).size<=10:=Jq _ (Hs _).1 (by have:=(Hs (Int.fdiv h (2^(min j IntKind.i64.bits)))).2;omega)
def tA (h p:Int):ByteArray:=((((((((xB h 24++Ac [46])++xB h 16)++Ac [46])++xB h 8)++Ac [46])++xB h 0)++Ac [58])++Eb p)
theorem Agy (h p:Int) (h0:0<=p) (h1:p<10000000000):(tA h p).size<=100:=by
 have a:=Dz h 24
 have b:=Dz h 16
 have c:=Dz h 8
 have d:=Dz h 0
 have e:=Jq p h0 h1
 unfold tA
 simp only[ByteArray.size_append]
 have f:(Ac [46]).size=1:=rfl
 have g:(Ac [58]).size=1:=rfl
 omega
def adT (a:Bt):ByteArray:=bif Fl a then tA a.1 a.2.1 else Ac []
theorem Sw {a:Bt} (h:Fl a=true):(0<=a.1/\a.1<=4294967295)/\0<=a.2.1/\a.2.1<=65535:=by
 unfold Fl inR at h
 simp at h
 omega
theorem Zh (a:Bt):(adT a).size<=100:=by
 unfold adT
 cases h:Fl a with
 |false=>exact(by decide:(Ac []).size<=100)
 |true=>
  have:=Sw h
  exact Agy _ _ zq1 zq1
theorem Afp:(Ac [46]).size=1:=rfl
theorem Ahq:(Ac [58]).size=1:=rfl
theorem Acs (a:Bt):Ei a=some (adT a,()):=by
 unfold Ei Kv adT
 simp only[Am,Ar,Ad,Aw,X9,As]
 cases h:Fl a with
 |false=>rfl
 |true=>
  obtain⟨⟨a0,a1⟩,a2,a3⟩:=Sw h
  have hf:Int.fdiv a.1 (2^(min ((24:Int)).toNat IntKind.i64.bits))=mB (Int.fdiv a.1 (2^(min 24 IntKind.i64.bits))):=by
   rw[show((24:Int)).toNat=24 from rfl,show(2:Int)^(min 24 IntKind.i64.bits)=16777216 from rfl,Int.fdiv_eq_ediv_of_nonneg _ zq1,Aii _ zq1 zq1]
  have e1:Cp ((Int.fdiv a.1 (2^(min ((24:Int)).toNat IntKind.i64.bits))),())=some (xB a.1 24,()):=by
   rw[hf]
   exact Q7 _ (Hs _).1 (by have:=(Hs (Int.fdiv a.1 (2^(min 24 IntKind.i64.bits)))).2;omega)
  have e2: ∀n:Int,Cp ((IntKind.i64.wrap ((BitVec.ofInt (IntKind.i64.bits) n &&& BitVec.ofInt (IntKind.i64.bits) ((255:Int))).toNat:Nat)),())=some (Eb (mB n),()):=fun n=>
   Q7 (mB n) (Hs _).1 (by have:=(Hs n).2;omega)
  have e3:Cp (a.1,())=Cp (Int.fdiv a.1 (2^(min 0 IntKind.i64.bits)),()):=by
   rw[show(2:Int)^(min 0 IntKind.i64.bits)=1 from rfl,Int.fdiv_one]
  have e4:Eb (mB a.1)=xB a.1 0:=by
   unfold xB
   rw[show(2:Int)^(min 0 IntKind.i64.bits)=1 from rfl,Int.fdiv_one]
  have z1:=Dz a.1 24
  have z2:=Dz a.1 16
  have z3:=Dz a.1 8
  have z4:=Dz a.1 0
  have z5:=Jq a.2.1 a2 zq1
  simp only[Bool.not_true,A9,e1,e2,As,Q7 a.2.1 a2 zq1,e4]
  rw[show Eb (mB (Int.fdiv a.1 (2^(min ((16:Int)).toNat IntKind.i64.bits))))=xB a.1 16 from rfl,show Eb (mB (Int.fdiv a.1 (2^(min ((8:Int)).toNat IntKind.i64.bits))))=xB a.1 8 from rfl]
  simp (disch:=(simp only[ByteArray.size_append,Afp,Ahq];omega)) only[Al,Au]
  rfl
theorem Zi (n:YI):Eg n=some (Eb n.1,()):=rfl
theorem Agn (a b c d s:ByteArray):(⟨(Fy [(a,()),(b,()),(c,()),(d,())] s).toArray⟩:ByteArray)=(((((a++s)++b)++s)++c)++s)++d:=by
 apply ByteArray.ext
 simp only[ByteArray.data_append]
 unfold Fy
 simp only[List.map_cons,List.map_nil,Lib.join_cons,Lib.joinTail,List.flatten_cons,List.flatten_nil,List.append_nil]
 apply Array.toList_inj.1
 simp[Array.toList_append]
theorem Acu (a:Bt):Eh a=some (adT a,()):=by
 unfold Eh Ks adT
 simp only[Am,Ar,Ad,Aw,X8,As]
 cases h:Fl a with
 |false=>rfl
 |true=>
  obtain⟨⟨a0,a1⟩,a2,a3⟩:=Sw h
  have hs: ∀(k:Int) (j:Nat) (l:List (ByteArray×Unit)),0<=k->k<=3->j=(8*k).toNat->l.length<=10->Cf (l,k,a.1,a.2.1,())=some (.inl (l++[(xB a.1 j,())],k-1,a.1,a.2.1,())):=fun k j l h0 h3 hj hl=>by
   subst hj
   unfold Cf
   simp only[Am,Ar,Ad,Aw]
   rw[show decide (k≥0)=true from Al h0,Bo,w64 (n:=8*k) zq1,show decide (0<=8*k)=true from Al zq1,Au,Zi,As,w64 (n:=k-1) zq1]
   rw[show decide (l.length+[((Eb (IntKind.i64.wrap ((BitVec.ofInt (IntKind.i64.bits) ((Int.fdiv a.1 (2^(min (8*k).toNat IntKind.i64.bits)))) &&& BitVec.ofInt (IntKind.i64.bits) ((255:Int))).toNat:Nat)),()):ByteArray×Unit)].length<=4294967296)=true from Al zq0,Au]
   rfl
  have hloop:Ay Cf (([]:List (ByteArray×Unit)),(3:Int),a.1,a.2.1,())=some ([(xB a.1 24,()),(xB a.1 16,()),(xB a.1 8,()),(xB a.1 0,())],a.1,a.2.1,()):=by
   rw[Ci,hs 3 24 [] zq1 zq1 rfl (by simp)]
   show Ay Cf ([(xB a.1 24,())],(2:Int),a.1,a.2.1,())=_
   rw[Ci,hs 2 16 _ zq1 zq1 rfl (by simp)]
   show Ay Cf ([(xB a.1 24,()),(xB a.1 16,())],(1:Int),a.1,a.2.1,())=_
   rw[Ci,hs 1 8 _ zq1 zq1 rfl (by simp)]
   show Ay Cf ([(xB a.1 24,()),(xB a.1 16,()),(xB a.1 8,())],(0:Int),a.1,a.2.1,())=_
   rw[Ci,hs 0 0 _ zq1 zq1 rfl (by simp)]
   show Ay Cf ([(xB a.1 24,()),(xB a.1 16,()),(xB a.1 8,()),(xB a.1 0,())],(-1:Int),a.1,a.2.1,())=_
   rw[Ci]
   rfl
  have z1:=Dz a.1 24
  have z2:=Dz a.1 16
  have z3:=Dz a.1 8
  have z4:=Dz a.1 0
  have z5:=Jq a.2.1 a2 zq1
  have hj:I1 ([(xB a.1 24,()),(xB a.1 16,()),(xB a.1 8,()),(xB a.1 0,())],()) ((Ac [46]),())=some ((((((xB a.1 24++Ac [46])++xB a.1 16)++Ac [46])++xB a.1 8)++Ac [46])++xB a.1 0,()):=by
   unfold I1 I0
   simp only[Aw,Ad,Agn]
   have hl:(Fy [(xB a.1 24,()),(xB a.1 16,()),(xB a.1 8,()),(xB a.1 0,())] (Ac [46])).length<=100:=by
    have e:=congrArg ByteArray.size (Agn (xB a.1 24) (xB a.1 16) (xB a.1 8) (xB a.1 0) (Ac [46]))
    simp only[ByteArray.size_append,Afp]at e
    have e2:ByteArray.size ⟨(Fy [(xB a.1 24,()),(xB a.1 16,()),(xB a.1 8,()),(xB a.1 0,())] (Ac [46])).toArray⟩=(Fy [(xB a.1 24,()),(xB a.1 16,()),(xB a.1 8,()),(xB a.1 0,())] (Ac [46])).length:=List.size_toArray
    omega
   rw[show decide (List.length [(xB a.1 24,()),(xB a.1 16,()),(xB a.1 8,()),(xB a.1 0,())]+(Fy [(xB a.1 24,()),(xB a.1 16,()),(xB a.1 8,()),(xB a.1 0,())] (Ac [46])).length<=4294967296)=true from Al (by simp only[List.length_cons,List.length_nil];omega),Au]
  simp only[Bool.not_true,A9,hloop,As,hj,Zi]
  simp (disch:=(simp only[ByteArray.size_append,Afp,Ahq];omega)) only[Al,Au]
  rfl
end
end Go.Proofs.YthccfdmiejmbaaaDoor

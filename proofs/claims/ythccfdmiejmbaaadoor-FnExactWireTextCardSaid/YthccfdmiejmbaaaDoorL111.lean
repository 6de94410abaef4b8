/-
  That the program and the reference answer alike, in plain terms, and that the laws answer true.
-/
import Derived.Test.YthccfdmiejmbaaaDoorL110
namespace Go.Proofs.YthccfdmiejmbaaaDoor
open Go.RowKit
set_option linter.unusedVariables false
set_option linter.unusedSimpArgs false
set_option maxRecDepth 100000
set_option maxHeartbeats 8000000
noncomputable section
def mB (n:Int):Int:=IntKind.i64.wrap ((BitVec.ofInt (IntKind.i64.bits) n &&& BitVec.ofInt (IntKind.i64.bits) ((255:Int))).toNat:Nat)
theorem Zx (n:Int):mB n=(((BitVec.ofInt 64 n).toNat &&& 255:Nat):Int):=by
 have h:(BitVec.ofInt 64 n &&& BitVec.ofInt 64 (255:Int)).toNat=(BitVec.ofInt 64 n).toNat &&& 255:=by
  rw[BitVec.toNat_and]
  rfl
 have hle:(BitVec.ofInt 64 n).toNat &&& 255<=255:=Nat.and_le_right
 unfold mB
 show IntKind.i64.wrap (((BitVec.ofInt 64 n &&& BitVec.ofInt 64 (255:Int)).toNat:Nat):Int)=_
 rw[h,w64 zq0]
theorem F8 (n:Int):0<=mB n/\mB n<=255:=by
 rw[Zx]
 have hle:(BitVec.ofInt 64 n).toNat &&& 255<=255:=Nat.and_le_right
 omega
theorem Ad1 (n:Int) (h0:0<=n) (h1:n<=255):mB n=n:=by
 rw[Zx]
 have e:(BitVec.ofInt 64 n).toNat=n.toNat:=by
  rw[BitVec.toNat_ofInt]
  omega
 rw[e,show(255:Nat)=2^8-1 from rfl,Nat.and_two_pow_sub_one_eq_mod]
 omega
def xB (h:Int) (j:Nat):ByteArray:=Dm (mB (Int.fdiv h (2^(min j IntKind.i64.bits))))
theorem Dc (h:Int) (j:Nat):(xB h j).size<=10:=Hv _ (F8 _).1 (by have:=(F8 (Int.fdiv h (2^(min j IntKind.i64.bits)))).2;omega)
def tA (h p:Int):ByteArray:=((((((((xB h 24++Ac [46])++xB h 16)++Ac [46])++xB h 8)++Ac [46])++xB h 0)++Ac [58])++Dm p)
theorem Ack (h p:Int) (h0:0<=p) (h1:p<10000000000):(tA h p).size<=100:=by
 have a:=Dc h 24
 have b:=Dc h 16
 have c:=Dc h 8
 have d:=Dc h 0
 have e:=Hv p h0 h1
 unfold tA
 simp only[ByteArray.size_append]
 have f:(Ac [46]).size=1:=rfl
 have g:(Ac [58]).size=1:=rfl
 omega
def adT (a:Bv):ByteArray:=bif Eh a then tA a.1 a.2.1 else Ac []
theorem Pb {a:Bv} (h:Eh a=true):(0<=a.1/\a.1<=4294967295)/\0<=a.2.1/\a.2.1<=65535:=by
 unfold Eh inR at h
 simp at h
 omega
theorem Ub (a:Bv):(adT a).size<=100:=by
 unfold adT
 cases h:Eh a with
 |false=>exact(by decide:(Ac []).size<=100)
 |true=>
  have:=Pb h
  exact Ack _ _ zq0 zq0
theorem Aa4:(Ac [46]).size=1:=rfl
theorem Adb:(Ac [58]).size=1:=rfl
theorem Xi (a:Bv):Dp a=some (adT a,()):=by
 unfold Dp Iq adT
 simp only[Ao,Aw,Ah,A5,T5,Ap]
 cases h:Eh a with
 |false=>rfl
 |true=>
  obtain⟨⟨a0,a1⟩,a2,a3⟩:=Pb h
  have hf:Int.fdiv a.1 (2^(min ((24:Int)).toNat IntKind.i64.bits))=mB (Int.fdiv a.1 (2^(min 24 IntKind.i64.bits))):=by
   rw[show((24:Int)).toNat=24 from rfl,show(2:Int)^(min 24 IntKind.i64.bits)=16777216 from rfl,Int.fdiv_eq_ediv_of_nonneg _ zq0,Ad1 _ zq0 zq0]
  have e1:Cb ((Int.fdiv a.1 (2^(min ((24:Int)).toNat IntKind.i64.bits))),())=some (xB a.1 24,()):=by
   rw[hf]
   exact Nz _ (F8 _).1 (by have:=(F8 (Int.fdiv a.1 (2^(min 24 IntKind.i64.bits)))).2;omega)
  have e2: ∀n:Int,Cb ((IntKind.i64.wrap ((BitVec.ofInt (IntKind.i64.bits) n &&& BitVec.ofInt (IntKind.i64.bits) ((255:Int))).toNat:Nat)),())=some (Dm (mB n),()):=fun n=>
   Nz (mB n) (F8 _).1 (by have:=(F8 n).2;omega)
  have e3:Cb (a.1,())=Cb (Int.fdiv a.1 (2^(min 0 IntKind.i64.bits)),()):=by
   rw[show(2:Int)^(min 0 IntKind.i64.bits)=1 from rfl,Int.fdiv_one]
  have e4:Dm (mB a.1)=xB a.1 0:=by
   unfold xB
   rw[show(2:Int)^(min 0 IntKind.i64.bits)=1 from rfl,Int.fdiv_one]
  have z1:=Dc a.1 24
  have z2:=Dc a.1 16
  have z3:=Dc a.1 8
  have z4:=Dc a.1 0
  have z5:=Hv a.2.1 a2 zq0
  simp only[Bool.not_true,Be,e1,e2,Ap,Nz a.2.1 a2 zq0,e4]
  rw[show Dm (mB (Int.fdiv a.1 (2^(min ((16:Int)).toNat IntKind.i64.bits))))=xB a.1 16 from rfl,show Dm (mB (Int.fdiv a.1 (2^(min ((8:Int)).toNat IntKind.i64.bits))))=xB a.1 8 from rfl]
  simp (disch:=(simp only[ByteArray.size_append,Aa4,Adb];omega)) only[Aj,An]
  rfl
theorem Uc (n:YI):Dq n=some (Dm n.1,()):=rfl
theorem Ab2 (a b c d s:ByteArray):(⟨(Ep [(a,()),(b,()),(c,()),(d,())] s).toArray⟩:ByteArray)=(((((a++s)++b)++s)++c)++s)++d:=by
 apply ByteArray.ext
 simp only[ByteArray.data_append]
 unfold Ep
 simp only[List.map_cons,List.map_nil,Lib.join_cons,Lib.joinTail,List.flatten_cons,List.flatten_nil,List.append_nil]
 apply Array.toList_inj.1
 simp[Array.toList_append]
theorem Xj (a:Bv):Dr a=some (adT a,()):=by
 unfold Dr Iv adT
 simp only[Ao,Aw,Ah,A5,T4,Ap]
 cases h:Eh a with
 |false=>rfl
 |true=>
  obtain⟨⟨a0,a1⟩,a2,a3⟩:=Pb h
  have hs: ∀(k:Int) (j:Nat) (l:List (ByteArray×Unit)),0<=k->k<=3->j=(8*k).toNat->l.length<=10->Bx (l,k,a.1,a.2.1,())=some (.inl (l++[(xB a.1 j,())],k-1,a.1,a.2.1,())):=fun k j l h0 h3 hj hl=>by
   subst hj
   unfold Bx
   simp only[Ao,Aw,Ah,A5]
   rw[show decide (k≥0)=true from Aj h0,Bu,w64 (n:=8*k) zq0,show decide (0<=8*k)=true from Aj zq0,An,Uc,Ap,w64 (n:=k-1) zq0]
   rw[show decide (l.length+[((Dm (IntKind.i64.wrap ((BitVec.ofInt (IntKind.i64.bits) ((Int.fdiv a.1 (2^(min (8*k).toNat IntKind.i64.bits)))) &&& BitVec.ofInt (IntKind.i64.bits) ((255:Int))).toNat:Nat)),()):ByteArray×Unit)].length<=4294967296)=true from Aj zq2,An]
   rfl
  have hloop:Bb Bx (([]:List (ByteArray×Unit)),(3:Int),a.1,a.2.1,())=some ([(xB a.1 24,()),(xB a.1 16,()),(xB a.1 8,()),(xB a.1 0,())],a.1,a.2.1,()):=by
   rw[Cm,hs 3 24 [] zq0 zq0 rfl (by simp)]
   show Bb Bx ([(xB a.1 24,())],(2:Int),a.1,a.2.1,())=_
   rw[Cm,hs 2 16 _ zq0 zq0 rfl (by simp)]
   show Bb Bx ([(xB a.1 24,()),(xB a.1 16,())],(1:Int),a.1,a.2.1,())=_
   rw[Cm,hs 1 8 _ zq0 zq0 rfl (by simp)]
   show Bb Bx ([(xB a.1 24,()),(xB a.1 16,()),(xB a.1 8,())],(0:Int),a.1,a.2.1,())=_
   rw[Cm,hs 0 0 _ zq0 zq0 rfl (by simp)]
   show Bb Bx ([(xB a.1 24,()),(xB a.1 16,()),(xB a.1 8,()),(xB a.1 0,())],(-1:Int),a.1,a.2.1,())=_
   rw[Cm]
   rfl
  have z1:=Dc a.1 24
  have z2:=Dc a.1 16
  have z3:=Dc a.1 8
  have z4:=Dc a.1 0
  have z5:=Hv a.2.1 a2 zq0
  have hj:Hf ([(xB a.1 24,()),(xB a.1 16,()),(xB a.1 8,()),(xB a.1 0,())],()) ((Ac [46]),())=some ((((((xB a.1 24++Ac [46])++xB a.1 16)++Ac [46])++xB a.1 8)++Ac [46])++xB a.1 0,()):=by
   unfold Hf Hd
   simp only[A5,Ah,Ab2]
   have hl:(Ep [(xB a.1 24,()),(xB a.1 16,()),(xB a.1 8,()),(xB a.1 0,())] (Ac [46])).length<=100:=by
    have e:=congrArg ByteArray.size (Ab2 (xB a.1 24) (xB a.1 16) (xB a.1 8) (xB a.1 0) (Ac [46]))
    simp only[ByteArray.size_append,Aa4]at e
    have e2:ByteArray.size ⟨(Ep [(xB a.1 24,()),(xB a.1 16,()),(xB a.1 8,()),(xB a.1 0,())] (Ac [46])).toArray⟩=(Ep [(xB a.1 24,()),(xB a.1 16,()),(xB a.1 8,()),(xB a.1 0,())] (Ac [46])).length:=List.size_toArray
    omega
   rw[show decide (List.length [(xB a.1 24,()),(xB a.1 16,()),(xB a.1 8,()),(xB a.1 0,())]+(Ep [(xB a.1 24,()),(xB a.1 16,()),(xB a.1 8,()),(xB a.1 0,())] (Ac [46])).length<=4294967296)=true from Aj (by simp only[List.length_cons,List.length_nil];omega),An]
  simp only[Bool.not_true,Be,hloop,Ap,hj,Uc]
  simp (disch:=(simp only[ByteArray.size_append,Aa4,Adb];omega)) only[Aj,An]
  rfl
end
end Go.Proofs.YthccfdmiejmbaaaDoor

/-
  That the program and the reference answer alike, in plain terms, and that the laws answer true.
-/
import Derived.Test.YthccfdmiejmbaaaDoorG7
namespace Go.Proofs.YthccfdmiejmbaaaDoor
open Go.RowKit
set_option linter.unusedVariables false
set_option linter.unusedSimpArgs false
set_option maxRecDepth 100000
set_option maxHeartbeats 8000000
noncomputable section
theorem Aa2 (n:YI):Ky n=F5 n:=by
 unfold Ky F5 Kr H7
 simp only[Am,Ar,Ad,Oc,Mz]
theorem Zg (n:YI): ∃r,F5 n=some r/\r.1.size<=9:=by
 obtain⟨n,_⟩:=n
 unfold F5 H7
 simp only[Am,Ar,Ad,Mz,As]
 cases h:inR n 1 8 with
 |false=>exact⟨_,rfl,by decide⟩
 |true=>
  have hh:n=1\/n=2\/n=3\/n=4\/n=5\/n=6\/n=7\/n=8:=by
   simp[inR]at h
   omega
  rcases hh with rfl|rfl|rfl|rfl|rfl|rfl|rfl|rfl<;>exact⟨_,rfl,by decide⟩
theorem Vm: ∀(k m:Nat),0<k->m<10^k->(Lib.decDigits m).length<=k
 |0,_,h,_=>by omega
 |k+1,m,_,h=>by
  rw[Lib.decDigits]
  split
  .simp
  .rename_i h10
   rw[Nat.pow_succ]at h
   cases k with
   |zero=>simp at h;omega
   |succ k=>
    have:=Vm (k+1) (m/10) zq1 zq1
    simp only[List.length_append,List.length_cons,List.length_nil]
    omega
theorem Afm (m:Nat):Cr [((IntKind.u8.wrap ((IntKind.i64.wrap ((48:Int)+((m:Int)%(10:Int)))))),())]=⟨#[UInt8.ofNat (48+m%10)]⟩:=by
 have e:((m:Int)%10)=((m%10:Nat):Int):=by omega
 have h:m%10<10:=by omega
 rw[e]
 have key: ∀r:Nat,r<10->(IntKind.u8.wrap ((IntKind.i64.wrap ((48:Int)+(r:Int))))).toNat=48+r:=by decide+kernel
 unfold Cr
 simp only[List.map_cons,List.map_nil]
 rw[key _ h]
def Mm (m:Nat):ByteArray:=⟨(Lib.decDigits m).toArray⟩
theorem Ad7 (m:Nat):(Mm m).size=(Lib.decDigits m).length:=by
 show(Lib.decDigits m).toArray.size=_
 simp
theorem Ad8 (m:Nat) (h:10<=m):Mm m=Mm (m/10)++⟨#[UInt8.ofNat (48+m%10)]⟩:=by
 apply ByteArray.ext
 rw[ByteArray.data_append]
 show(Lib.decDigits m).toArray=(Lib.decDigits (m/10)).toArray++ #[UInt8.ofNat (48+m%10)]
 rw[Lib.decDigits,dif_neg zq1]
 simp
theorem Afn (a b c:ByteArray):a++b++c=a++(b++c):=by
 apply ByteArray.ext
 simp only[ByteArray.data_append,Array.append_assoc]
theorem Afo (a:ByteArray):a++Ac []=a:=by
 apply ByteArray.ext
 simp[ByteArray.data_append,Ac]
theorem Abo: ∀(n m:Nat) (s:ByteArray),m<=n->0<m->s.size+(Lib.decDigits m).length<=4294967296->Ay D8 ((m:Int),s,())=some (Mm m++s,())
 |0,m,s,h,h0,_=>by omega
 |n+1,m,s,h,h0,hs=>by
  have hl:1<=(Lib.decDigits m).length:=by
   rw[Lib.decDigits]
   split<;>simp
  have hB:D8 ((m:Int),s,())=some (.inl (((m/10:Nat):Int),(⟨#[UInt8.ofNat (48+m%10)]⟩:ByteArray)++s,())):=by
   unfold D8
   simp only[Am,Ad,Aw]
   rw[Afm]
   rw[show decide ((m:Int)>0)=true from Al zq1,Bo,show decide ((0:Int)<=(m:Int))=true from Al zq1,Au,Au]
   rw[show decide ((⟨#[UInt8.ofNat (48+m%10)]⟩:ByteArray).size+s.size<=4294967296)=true from Al (by
    show 1+s.size<=_
    omega),Au]
   rfl
  rw[Ci,hB]
  show Ay D8 (((m/10:Nat):Int),(⟨#[UInt8.ofNat (48+m%10)]⟩:ByteArray)++s,())=_
  by_cases h10:m<10
  .have e:m/10=0:=by omega
   have e2:m%10=m:=by omega
   rw[e,e2,Ci]
   have hB2:D8 (((0:Nat):Int),(⟨#[UInt8.ofNat (48+m)]⟩:ByteArray)++s,())=some (.inr ((⟨#[UInt8.ofNat (48+m)]⟩:ByteArray)++s,())):=rfl
   rw[hB2]
   have e3:Mm m=⟨#[UInt8.ofNat (48+m)]⟩:=by
    unfold Mm
    rw[Lib.decDigits,dif_pos h10]
   rw[e3]
  .have hlen:(Lib.decDigits m).length=(Lib.decDigits (m/10)).length+1:=by
    rw[Lib.decDigits,dif_neg h10]
    simp
   rw[Abo n (m/10) _ zq1 zq1 (by
    rw[ByteArray.size_append]
    show(1+s.size)+_<=_
    omega),Ad8 m zq1,Afn]
theorem Q7 (n:Int) (h0:0<=n) (h1:n<10000000000):Cp (n,())=some (Eb n,()):=by
 have e:Eb n=Mm n.toNat:=by
  unfold Eb Lib.itoa
  rw[if_neg zq1]
  rfl
 rw[e]
 unfold Cp Qc
 simp only[Am,Ar,Ad]
 by_cases hz:n=0
 .subst hz
  rw[show((0:Int)==0)=true from rfl,Bo]
  have:Mm (0:Int).toNat=Ac [48]:=by
   unfold Mm
   rw[show(0:Int).toNat=0 from rfl,Lib.decDigits,dif_pos zq1]
   rfl
  rw[this]
 .rw[show(n==0)=false from by simpa using hz,A9]
  have h2:=Vm 10 n.toNat zq1 zq1
  have h3:=Abo n.toNat n.toNat (Ac []) (Nat.le_refl _) zq1 (by
   show 0+_<=_
   omega)
  rw[show((n.toNat:Nat):Int)=n by omega]at h3
  rw[h3,As,Afo]
theorem Jq (n:Int) (h0:0<=n) (h1:n<10000000000):(Eb n).size<=10:=by
 have e:Eb n=Mm n.toNat:=by
  unfold Eb Lib.itoa
  rw[if_neg zq1]
  rfl
 rw[e,Ad7]
 exact Vm 10 n.toNat zq1 zq1
end
end Go.Proofs.YthccfdmiejmbaaaDoor

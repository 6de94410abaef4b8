/-
  That the program and the reference answer alike, in plain terms, and that the laws answer true.
-/
import Derived.Test.YthccfdmiejmbaaaDoorG7
namespace Go.Proofs.YthccfdmiejmbaaaDoor
open Go.RowKit
set_option linter.unusedVariables false
set_option linter.unusedSimpArgs false
set_option maxRecDepth 100000
set_option maxHeartbeats 8000000
noncomputable section
theorem Vy (n:YI):I0 n=Eu n:=by
 unfold I0 Eu Iu Gj
 simp only[Ao,Aw,Ah,Lj,M7]
theorem Ua (n:YI): ∃r,Eu n=some r/\r.1.size<=9:=by
 obtain⟨n,_⟩:=n
 unfold Eu Gj
 simp only[Ao,Aw,Ah,M7,Ap]
 cases h:inR n 1 8 with
 |false=>exact⟨_,rfl,by decide⟩
 |true=>
  have hh:n=1\/n=2\/n=3\/n=4\/n=5\/n=6\/n=7\/n=8:=by
   simp[inR]at h
   omega
  rcases hh with rfl|rfl|rfl|rfl|rfl|rfl|rfl|rfl<;>exact⟨_,rfl,by decide⟩
theorem Rm: ∀(k m:Nat),0<k->m<10^k->(Lib.decDigits m).length<=k
 |0,_,h,_=>by omega
 |k+1,m,_,h=>by
  rw[Lib.decDigits]
  split
  .simp
  .rename_i h10
   rw[Nat.pow_succ]at h
   cases k with
   |zero=>simp at h;omega
   |succ k=>
    have:=Rm (k+1) (m/10) zq0 zq0
    simp only[List.length_append,List.length_cons,List.length_nil]
    omega
theorem Aa1 (m:Nat):Ch [((IntKind.u8.wrap ((IntKind.i64.wrap ((48:Int)+((m:Int)%(10:Int)))))),())]=⟨#[UInt8.ofNat (48+m%10)]⟩:=by
 have e:((m:Int)%10)=((m%10:Nat):Int):=by omega
 have h:m%10<10:=by omega
 rw[e]
 have key: ∀r:Nat,r<10->(IntKind.u8.wrap ((IntKind.i64.wrap ((48:Int)+(r:Int))))).toNat=48+r:=by decide+kernel
 unfold Ch
 simp only[List.map_cons,List.map_nil]
 rw[key _ h]
def J3 (m:Nat):ByteArray:=⟨(Lib.decDigits m).toArray⟩
theorem Zv (m:Nat):(J3 m).size=(Lib.decDigits m).length:=by
 show(Lib.decDigits m).toArray.size=_
 simp
theorem Zw (m:Nat) (h:10<=m):J3 m=J3 (m/10)++⟨#[UInt8.ofNat (48+m%10)]⟩:=by
 apply ByteArray.ext
 rw[ByteArray.data_append]
 show(Lib.decDigits m).toArray=(Lib.decDigits (m/10)).toArray++ #[UInt8.ofNat (48+m%10)]
 rw[Lib.decDigits,dif_neg zq0]
 simp
theorem Aa2 (a b c:ByteArray):a++b++c=a++(b++c):=by
 apply ByteArray.ext
 simp only[ByteArray.data_append,Array.append_assoc]
theorem Aa3 (a:ByteArray):a++Ac []=a:=by
 apply ByteArray.ext
 simp[ByteArray.data_append,Ac]
theorem We: ∀(n m:Nat) (s:ByteArray),m<=n->0<m->s.size+(Lib.decDigits m).length<=4294967296->Bb Dk ((m:Int),s,())=some (J3 m++s,())
 |0,m,s,h,h0,_=>by omega
 |n+1,m,s,h,h0,hs=>by
  have hl:1<=(Lib.decDigits m).length:=by
   rw[Lib.decDigits]
   split<;>simp
  have hB:Dk ((m:Int),s,())=some (.inl (((m/10:Nat):Int),(⟨#[UInt8.ofNat (48+m%10)]⟩:ByteArray)++s,())):=by
   unfold Dk
   simp only[Ao,Ah,A5]
   rw[Aa1]
   rw[show decide ((m:Int)>0)=true from Aj zq0,Bu,show decide ((0:Int)<=(m:Int))=true from Aj zq0,An,An]
   rw[show decide ((⟨#[UInt8.ofNat (48+m%10)]⟩:ByteArray).size+s.size<=4294967296)=true from Aj (by
    show 1+s.size<=_
    omega),An]
   rfl
  rw[Cm,hB]
  show Bb Dk (((m/10:Nat):Int),(⟨#[UInt8.ofNat (48+m%10)]⟩:ByteArray)++s,())=_
  by_cases h10:m<10
  .have e:m/10=0:=by omega
   have e2:m%10=m:=by omega
   rw[e,e2,Cm]
   have hB2:Dk (((0:Nat):Int),(⟨#[UInt8.ofNat (48+m)]⟩:ByteArray)++s,())=some (.inr ((⟨#[UInt8.ofNat (48+m)]⟩:ByteArray)++s,())):=rfl
   rw[hB2]
   have e3:J3 m=⟨#[UInt8.ofNat (48+m)]⟩:=by
    unfold J3
    rw[Lib.decDigits,dif_pos h10]
   rw[e3]
  .have hlen:(Lib.decDigits m).length=(Lib.decDigits (m/10)).length+1:=by
    rw[Lib.decDigits,dif_neg h10]
    simp
   rw[We n (m/10) _ zq0 zq0 (by
    rw[ByteArray.size_append]
    show(1+s.size)+_<=_
    omega),Zw m zq0,Aa2]
theorem Nz (n:Int) (h0:0<=n) (h1:n<10000000000):Cb (n,())=some (Dm n,()):=by
 have e:Dm n=J3 n.toNat:=by
  unfold Dm Lib.itoa
  rw[if_neg zq0]
  rfl
 rw[e]
 unfold Cb Mr
 simp only[Ao,Aw,Ah]
 by_cases hz:n=0
 .subst hz
  rw[show((0:Int)==0)=true from rfl,Bu]
  have:J3 (0:Int).toNat=Ac [48]:=by
   unfold J3
   rw[show(0:Int).toNat=0 from rfl,Lib.decDigits,dif_pos zq0]
   rfl
  rw[this]
 .rw[show(n==0)=false from by simpa using hz,Be]
  have h2:=Rm 10 n.toNat zq0 zq0
  have h3:=We n.toNat n.toNat (Ac []) (Nat.le_refl _) zq0 (by
   show 0+_<=_
   omega)
  rw[show((n.toNat:Nat):Int)=n by omega]at h3
  rw[h3,Ap,Aa3]
theorem Hv (n:Int) (h0:0<=n) (h1:n<10000000000):(Dm n).size<=10:=by
 have e:Dm n=J3 n.toNat:=by
  unfold Dm Lib.itoa
  rw[if_neg zq0]
  rfl
 rw[e,Zv]
 exact Rm 10 n.toNat zq0 zq0
end
end Go.Proofs.YthccfdmiejmbaaaDoor

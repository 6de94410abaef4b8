/-
  That the program and the reference answer alike, in plain terms, and that the laws answer true.
-/
import Derived.Test.YtjlblagmjlmglaaGreatL28
namespace Go.Proofs.YtjlblagmjlmglaaGreat
open Go.RowKit
set_option linter.unusedVariables false
set_option linter.unusedSimpArgs false
set_option maxRecDepth 100000
set_option maxHeartbeats 4000000
noncomputable section
theorem A3d {l:List YB}:wfB l↔ ∀x∈l,0≤x.1∧x.1≤255:=by
 constructor
 ·intro h x hx
  obtain⟨i,hi⟩:=List.getElem?_of_mem hx
  exact h i x hi
 ·intro h i x hx
  exact h x (List.mem_of_getElem? hx)
theorem Gy:wfB []:=A3d.2 zq3
theorem u8_in (n:Int):0≤IntKind.u8.wrap n∧IntKind.u8.wrap n≤255:=by rw[IntKind.wrap_u8];omega
theorem Bbc (k n p:List YB):wfB (mix k n p):=by
 unfold mix
 split
 ·refine A3d.2 fun x hx=>?_
  unfold Z6 at hx
  obtain⟨j,_,rfl⟩:=List.mem_map.1 hx
  exact u8_in _
 ·exact Gy
theorem Bcj (sn:List YB) (ep seq kind:Int) (p t:List YB) (hk:inR kind 4 8=true) (ht:t.length=16):B9 (kind,0,[],sn,0,[],[],ep,seq,p,t,())=(((sn.length:Int)==12) && (inR ep 0 4294967295 && (inR seq 0 281474976710655 && He kind (p.length:Int)))):=by
 unfold B9
 simp only[hk,cond_true]
 simp[ht]
theorem A3e {k n:Int} (h:He k n=true):n≤40:=by
 unfold He at h
 cases h4:(k==4)<;>cases h5:(k==5)<;>cases h6:(k==6)<;>simp[h4,h5,h6]at h<;>omega
theorem A3f {k n p:List YB} (h1:p.length≤200) (h2:n.length≤100) (h3:k.length≤1048576):(mix k n p).length=p.length:=by
 unfold mix
 rw[if_pos ⟨h1,h2,h3⟩,Ahw]
theorem A3g {k m:List YB} (h1:k.length≤1048576) (h2:m.length≤1048512):(Pb k m).length=16:=by
 unfold Pb
 rw[List.length_take,Qt k m h1 h2];rfl
theorem Aud {k:List YB} {r:Int} {sn:List YB} {ep seq kind:Int} {p:List YB} (h:H4 k r sn ep seq kind p=true):B9 (D6 k r sn ep seq kind p).1=true:=by
 have h':=h
 unfold H4 Ev at h'
 simp only[Bool.and_eq_true]at h'
 obtain⟨a1,⟨a2,a3,a4,a5⟩,a6,a7⟩:=h'
 have hk:k.length=32:=by simp at a1;omega
 have hsn:sn.length=12:=by simp at a3;omega
 have hp:=A3e a7
 have hl:(Cp r sn ep seq).length≤23:=by rw[Ja];cases Ev r sn ep seq<;>simp
 have hm:(mix k (Cp r sn ep seq) p).length=p.length:=A3f zq0 zq0 zq0
 have hti:=Adb r (kind,0,[],sn,0,[],[],ep,seq,mix k (Cp r sn ep seq) p,J4,())
 have ht:(Pb k (Dr r (kind,0,[],sn,0,[],[],ep,seq,mix k (Cp r sn ep seq) p,J4,()))).length=16:=by
  refine A3g zq0 ?_
  refine Nat.le_trans hti ?_
  simp only[Ar,List.length_nil,hsn,hm,J4,List.length_replicate];omega
 unfold D6
 rw[h]
 simp only[cond_true]
 rw[Bcj _ _ _ _ _ _ a6 ht,hm,a3,a4,a5,a7];rfl
theorem W5 {w:Bp} (h:Fr w.2.1) {n:Int} (h0:0≤n):Tm w n=Qu w.2.1 (n%1024).toNat:=by
 obtain⟨m,rfl⟩:=Int.eq_ofNat_of_zero_le h0
 have hlt:m%1024/32<w.2.1.length:=by rw[h.1];omega
 have hx:=List.getElem?_eq_getElem hlt
 have hw:=h.2 _ _ hx
 obtain⟨k,hk⟩:=Int.eq_ofNat_of_zero_le hw.1
 have hid:idx w.2.1 ((m:Int)%1024/32)=some w.2.1[m%1024/32]:=by
  rw[show(m:Int)%1024/32=((m%1024/32:Nat):Int) by omega];exact Dz hx
 unfold Tm Qu
 rw[hid,show((m:Int)%1024).toNat=m%1024 by omega,hx]
 show(IntKind.i64.wrap _==1)=Nat.testBit (Int.toNat (w.2.1[m%1024/32]).1) _
 rw[hk,show((k:Int)).toNat=k by omega,show((m:Int)%32).toNat=m%32 by omega,show min (m%32) IntKind.i64.bits=m%32 from Nat.min_eq_left (by show m%32≤64;omega),show m%1024%32=m%32 by omega]
 have e1:Int.fdiv (k:Int) ((2:Int)^(m%32))=((k/2^(m%32):Nat):Int):=by
  rw[show((2:Int)^(m%32))=((2^(m%32):Nat):Int) by push_cast;rfl,Int.fdiv_eq_ediv_of_nonneg _ (Int.natCast_nonneg _)];rfl
 have hk32:k<4294967296:=by omega
 have hd:k/2^(m%32)≤k:=Nat.div_le_self _ _
 rw[e1,Jb]
 have e2:BitVec.ofInt IntKind.i64.bits (1:Int)=BitVec.ofNat 64 1:=Jb 1
 rw[e2]
 have e3:(BitVec.ofNat 64 (k/2^(m%32)) &&& BitVec.ofNat 64 1).toNat=k/2^(m%32)%2:=by
  rw[BitVec.toNat_and,BitVec.toNat_ofNat,BitVec.toNat_ofNat,Nat.mod_eq_of_lt (a:=k/2^(m%32)) (b:=2^64) (Nat.lt_of_le_of_lt hd zq0),show(1:Nat)%2^64=1 from rfl,Nat.and_one_is_mod]
 have e4:IntKind.i64.wrap (((BitVec.ofNat 64 (k/2^(m%32)) &&& BitVec.ofNat 64 1).toNat:Nat):Int)=((k/2^(m%32)%2:Nat):Int):=by
  rw[e3];exact w64 zq0
 show(IntKind.i64.wrap (((BitVec.ofNat 64 (k/2^(m%32)) &&& BitVec.ofNat 64 1).toNat:Nat):Int)==1)=_
 rw[e4,Nat.testBit_eq_decide_div_mod_eq]
 by_cases hb:k/2^(m%32)%2=1
 ·simp[hb]
 ·have:k/2^(m%32)%2=0:=by omega
  simp[this]
theorem A7u {w:Bp} {n:Int} (h:Gj w n=true):Ih (Hi w n)=true:=by
 unfold Gj at h
 simp only[Bool.and_eq_true]at h
 obtain⟨h1,h2,h3⟩:=Sq h.1
 have hn:=Bf.1 h.2.1
 obtain⟨c1,c2⟩:=Nv h1 (s:=w.1+1) zq0 (Ade w.1 n)
 obtain⟨t1,t2⟩:=Amw (f:=Aaa) (g:=fun x y=>x || y) (fun hw hb=>Auc hw hb) (fun x=>by simp) c1 hn.1
 have ho:=h.1
 unfold Ih at ho
 simp only[Bool.and_eq_true]at ho
 have htop:(Hi w n).1=if w.1<n then n else w.1:=rfl
 have hbits:(Hi w n).2.1=Jp Aaa (Ig w.2.1 (w.1+1) (Ade w.1 n)) n:=rfl
 have hwin:Fr (Hi w n).2.1:=t1
 have htail:=Adf.1 ho.2.2.1
 unfold Ih
 simp only[Bool.and_eq_true]
 refine⟨Bf.2 (by rw[htop];split<;>omega),⟨Wx.2 fun q x hx=>by have:=hwin.2 q x hx;omega,by rw[hwin.1];rfl⟩,?_,?_⟩
 ·refine Adf.2 fun i hi=>?_
  rw[htop]at hi ⊢
  have hp:(0:Int)≤(if w.1<n then n else w.1)+1+(i:Nat):=by split<;>omega
  rw[W5 hwin hp,hbits]
  generalize hq:((if w.1<n then n else w.1)+1+(i:Nat))=p at hp
  have hp2:p≤1023:=by rw[←hq];split at hi<;>(split<;>omega)
  have hp3:w.1<p∧n<p:=by rw[←hq];split<;>omega
  rw[t2 _ zq0,c2 _ zq0]
  have hne:decide ((((p%1024).toNat:Nat):Int)=n%1024)=false:=decide_eq_false zq0
  have hold:=htail (p-w.1-1).toNat zq0
  rw[show w.1+1+(((p-w.1-1).toNat:Nat):Int)=p by omega,W5 h1 hp]at hold
  rw[hne,hold];rfl
 ·rw[htop]
  by_cases hlt:w.1<n
  ·rw[if_pos hlt,W5 hwin hn.1,hbits,t2 _ zq0]
   rw[show decide ((((n%1024).toNat:Nat):Int)=n%1024)=true from decide_eq_true zq0]
   simp
  ·rw[if_neg hlt,W5 hwin zq0,hbits,t2 _ zq0,c2 _ zq0]
   have hm:Ade w.1 n=0:=by unfold Ade;rw[if_pos zq0]
   have hold:=ho.2.2.2
   rw[show(w.1== -1)=false by simp;omega,Bool.false_or,W5 h1 zq0]at hold
   rw[hold,hm]
   simp
end
end Go.Proofs.YtjlblagmjlmglaaGreat

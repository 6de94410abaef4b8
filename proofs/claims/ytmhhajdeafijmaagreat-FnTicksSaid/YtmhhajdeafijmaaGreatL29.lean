/-
  That the program and the reference answer alike, in plain terms, and that the laws answer true.
-/
import Derived.Test.YtmhhajdeafijmaaGreatL28
namespace Go.Proofs.YtmhhajdeafijmaaGreat
open Go.RowKit
set_option linter.unusedVariables false
set_option linter.unusedSimpArgs false
set_option maxRecDepth 100000
set_option maxHeartbeats 4000000
noncomputable section
theorem Aue {l:List YB}:wfB l↔ ∀x∈l,0≤x.1∧x.1≤255:=by
 constructor
 ·intro h x hx
  obtain⟨i,hi⟩:=List.getElem?_of_mem hx
  exact h i x hi
 ·intro h i x hx
  exact h x (List.mem_of_getElem? hx)
theorem Gk:wfB []:=Aue.2 zq3
theorem u8_in (n:Int):0≤IntKind.u8.wrap n∧IntKind.u8.wrap n≤255:=by rw[IntKind.wrap_u8];omega
theorem A8v (n:Int) (k i:Nat):wfB (E5 n k i):=Aue.2 fun x hx=>by
 unfold E5 at hx
 obtain⟨j,_,rfl⟩:=List.mem_map.1 hx
 exact u8_in _
theorem Bar (k n p:List YB):wfB (mix k n p):=by
 unfold mix
 split
 ·refine Aue.2 fun x hx=>?_
  unfold Mm at hx
  obtain⟨j,_,rfl⟩:=List.mem_map.1 hx
  exact u8_in _
 ·exact Gk
theorem Azn (sn:List YB) (ep seq kind:Int) (p t:List YB) (hk:inR kind 4 8=true) (ht:t.length=16):Bg (kind,0,[],sn,0,[],[],ep,seq,p,t,())=(((sn.length:Int)==12) && (inR ep 0 4294967295 && (inR seq 0 281474976710655 && Ft kind (p.length:Int)))):=by
 unfold Bg
 simp only[hk,cond_true]
 simp[ht]
theorem Auf {k n:Int} (h:Ft k n=true):n≤40:=by
 unfold Ft at h
 cases h4:(k==4)<;>cases h5:(k==5)<;>cases h6:(k==6)<;>simp[h4,h5,h6]at h<;>omega
theorem Am5 {k n p:List YB} (h1:p.length≤200) (h2:n.length≤100) (h3:k.length≤1048576):(mix k n p).length=p.length:=by
 unfold mix
 rw[if_pos ⟨h1,h2,h3⟩,Aau]
theorem Aug {k m:List YB} (h1:k.length≤1048576) (h2:m.length≤1048512):(Jw k m).length=16:=by
 unfold Jw
 rw[List.length_take,Rg k m h1 h2];rfl
theorem Ri {k:List YB} {r:Int} {sn:List YB} {ep seq kind:Int} {p:List YB} (h:D7 k r sn ep seq kind p=true):Bg (Be k r sn ep seq kind p).1=true:=by
 have h':=h
 unfold D7 Dc at h'
 simp only[Bool.and_eq_true]at h'
 obtain⟨a1,⟨a2,a3,a4,a5⟩,a6,a7⟩:=h'
 have hk:k.length=32:=by simp at a1;omega
 have hsn:sn.length=12:=by simp at a3;omega
 have hp:=Auf a7
 have hl:(Bz r sn ep seq).length≤23:=by rw[Ha];cases Dc r sn ep seq<;>simp
 have hm:(mix k (Bz r sn ep seq) p).length=p.length:=Am5 zq0 zq0 zq0
 have hti:=Sd r (kind,0,[],sn,0,[],[],ep,seq,mix k (Bz r sn ep seq) p,Gr,())
 have ht:(Jw k (Bs r (kind,0,[],sn,0,[],[],ep,seq,mix k (Bz r sn ep seq) p,Gr,()))).length=16:=by
  refine Aug zq0 ?_
  refine Nat.le_trans hti ?_
  simp only[As,List.length_nil,hsn,hm,Gr,List.length_replicate];omega
 unfold Be
 rw[h]
 simp only[cond_true]
 rw[Azn _ _ _ _ _ _ a6 ht,hm,a3,a4,a5,a7];rfl
theorem Xp {w:Bn} (h:F2 w.2.1) {n:Int} (h0:0≤n):T8 w n=Rh w.2.1 (n%1024).toNat:=by
 obtain⟨m,rfl⟩:=Int.eq_ofNat_of_zero_le h0
 have hlt:m%1024/32<w.2.1.length:=by rw[h.1];omega
 have hx:=List.getElem?_eq_getElem hlt
 have hw:=h.2 _ _ hx
 obtain⟨k,hk⟩:=Int.eq_ofNat_of_zero_le hw.1
 have hid:idx w.2.1 ((m:Int)%1024/32)=some w.2.1[m%1024/32]:=by
  rw[show(m:Int)%1024/32=((m%1024/32:Nat):Int) by omega];exact Dl hx
 unfold T8 Rh
 rw[hid,show((m:Int)%1024).toNat=m%1024 by omega,hx]
 show(IntKind.i64.wrap _==1)=Nat.testBit (Int.toNat (w.2.1[m%1024/32]).1) _
 rw[hk,show((k:Int)).toNat=k by omega,show((m:Int)%32).toNat=m%32 by omega,show min (m%32) IntKind.i64.bits=m%32 from Nat.min_eq_left (by show m%32≤64;omega),show m%1024%32=m%32 by omega]
 have e1:Int.fdiv (k:Int) ((2:Int)^(m%32))=((k/2^(m%32):Nat):Int):=by
  rw[show((2:Int)^(m%32))=((2^(m%32):Nat):Int) by push_cast;rfl,Int.fdiv_eq_ediv_of_nonneg _ (Int.natCast_nonneg _)];rfl
 have hk32:k<4294967296:=by omega
 have hd:k/2^(m%32)≤k:=Nat.div_le_self _ _
 rw[e1,Jl]
 have e2:BitVec.ofInt IntKind.i64.bits (1:Int)=BitVec.ofNat 64 1:=Jl 1
 rw[e2]
 have e3:(BitVec.ofNat 64 (k/2^(m%32)) &&& BitVec.ofNat 64 1).toNat=k/2^(m%32)%2:=by
  rw[BitVec.toNat_and,BitVec.toNat_ofNat,BitVec.toNat_ofNat,Nat.mod_eq_of_lt (a:=k/2^(m%32)) (b:=2^64) (Nat.lt_of_le_of_lt hd zq0),show(1:Nat)%2^64=1 from rfl,Nat.and_one_is_mod]
 have e4:IntKind.i64.wrap (((BitVec.ofNat 64 (k/2^(m%32)) &&& BitVec.ofNat 64 1).toNat:Nat):Int)=((k/2^(m%32)%2:Nat):Int):=by
  rw[e3];exact w64 zq0
 show(IntKind.i64.wrap (((BitVec.ofNat 64 (k/2^(m%32)) &&& BitVec.ofNat 64 1).toNat:Nat):Int)==1)=_
 rw[e4,Nat.testBit_eq_decide_div_mod_eq]
 by_cases hb:k/2^(m%32)%2=1
 ·simp[hb]
 ·have:k/2^(m%32)%2=0:=by omega
  simp[this]
theorem Av2 {w:Bn} {n:Int} (h:Fu w n=true):Fq (Gt w n)=true:=by
 unfold Fu at h
 simp only[Bool.and_eq_true]at h
 obtain⟨h1,h2,h3⟩:=Te h.1
 have hn:=A6.1 h.2.1
 obtain⟨c1,c2⟩:=Of h1 (s:=w.1+1) zq0 (Ad2 w.1 n)
 obtain⟨t1,t2⟩:=Am4 (f:=Aaz) (g:=fun x y=>x || y) (fun hw hb=>Aud hw hb) (fun x=>by simp) c1 hn.1
 have ho:=h.1
 unfold Fq at ho
 simp only[Bool.and_eq_true]at ho
 have htop:(Gt w n).1=if w.1<n then n else w.1:=rfl
 have hbits:(Gt w n).2.1=Jz Aaz (It w.2.1 (w.1+1) (Ad2 w.1 n)) n:=rfl
 have hwin:F2 (Gt w n).2.1:=t1
 have htail:=Ad4.1 ho.2.2.1
 unfold Fq
 simp only[Bool.and_eq_true]
 refine⟨A6.2 (by rw[htop];split<;>omega),⟨Xh.2 fun q x hx=>by have:=hwin.2 q x hx;omega,by rw[hwin.1];rfl⟩,?_,?_⟩
 ·refine Ad4.2 fun i hi=>?_
  rw[htop]at hi ⊢
  have hp:(0:Int)≤(if w.1<n then n else w.1)+1+(i:Nat):=by split<;>omega
  rw[Xp hwin hp,hbits]
  generalize hq:((if w.1<n then n else w.1)+1+(i:Nat))=p at hp
  have hp2:p≤1023:=by rw[←hq];split at hi<;>(split<;>omega)
  have hp3:w.1<p∧n<p:=by rw[←hq];split<;>omega
  rw[t2 _ zq0,c2 _ zq0]
  have hne:decide ((((p%1024).toNat:Nat):Int)=n%1024)=false:=decide_eq_false zq0
  have hold:=htail (p-w.1-1).toNat zq0
  rw[show w.1+1+(((p-w.1-1).toNat:Nat):Int)=p by omega,Xp h1 hp]at hold
  rw[hne,hold];rfl
 ·rw[htop]
  by_cases hlt:w.1<n
  ·rw[if_pos hlt,Xp hwin hn.1,hbits,t2 _ zq0]
   rw[show decide ((((n%1024).toNat:Nat):Int)=n%1024)=true from decide_eq_true zq0]
   simp
  ·rw[if_neg hlt,Xp hwin zq0,hbits,t2 _ zq0,c2 _ zq0]
   have hm:Ad2 w.1 n=0:=by unfold Ad2;rw[if_pos zq0]
   have hold:=ho.2.2.2
   rw[show(w.1== -1)=false by simp;omega,Bool.false_or,Xp h1 zq0]at hold
   rw[hold,hm]
   simp
end
end Go.Proofs.YtmhhajdeafijmaaGreat

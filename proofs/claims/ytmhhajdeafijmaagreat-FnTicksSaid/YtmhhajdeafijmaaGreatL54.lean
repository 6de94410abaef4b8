/-
  That the program and the reference answer alike, in plain terms, and that the laws answer true.
-/
import Derived.Test.YtmhhajdeafijmaaGreatL49
namespace Go.Proofs.YtmhhajdeafijmaaGreat
open Go.RowKit
set_option linter.unusedVariables false
set_option linter.unusedSimpArgs false
set_option maxRecDepth 100000
set_option maxHeartbeats 8000000
noncomputable section
theorem A85 (x:Int):orx 0 x x=0:=by
 unfold orx
 rw[BitVec.xor_self]
 decide
theorem A17 (a:List YB) (h:a.length≤4294967296):Jv (a,()) (a,())=some (0,()):=by
 have e:=Cq (B:=H9) a.length (fun i=>(a,a,(0:Int),(a.length:Int),(i:Int),())) ((0:Int),())
  (fun i hi=>by
   have hx:=List.getElem?_eq_getElem hi
   have ho:=A85 a[i].1
   unfold orx at ho
   unfold H9
   simp only[Ag,Ai,Ad,M6 hi,Aw,Dl hx,Aj,ho]
   rw[w64 zq0]
   rfl)
  (by unfold H9;simp only[Ag,Ad,M7,An])
 unfold Jv Ap7
 simp only[Ag,Ai,Ad,bne_self_eq_false,An]
 rw[show Ay H9 (a,a,(0:Int),(a.length:Int),(0:Int),())=_ from e,Aj]
theorem Auj (a:List YB) (h:a.length=16):M5 (a,()) (a,())=some (true,()):=by
 unfold M5 Adt
 simp only[Ag,Ai,Ad]
 rw[A17 a zq0,show((a.length:Int)==16)=true by simp[h],Aw,Aj]
 rfl
theorem A7j {s p:Int} (h:0≤p∧p≤255):Aat s (Aat s p).1=(p,()):=by
 unfold Aat
 generalize hX:BitVec.ofInt (IntKind.u8.bits) s=X
 have hlt:(X ^^^ BitVec.ofInt (IntKind.u8.bits) p).toNat<256:=(X ^^^ BitVec.ofInt (IntKind.u8.bits) p).isLt
 dsimp only
 rw[w8 (n:=((X ^^^ BitVec.ofInt (IntKind.u8.bits) p).toNat:Nat)) zq0]
 have e:BitVec.ofInt (IntKind.u8.bits) (((X ^^^ BitVec.ofInt (IntKind.u8.bits) p).toNat:Nat):Int)=X ^^^ BitVec.ofInt (IntKind.u8.bits) p:=by
  rw[BitVec.ofInt_natCast]
  apply BitVec.eq_of_toNat_eq
  rw[BitVec.toNat_ofNat]
  exact Nat.mod_eq_of_lt hlt
 rw[e,←BitVec.xor_assoc,BitVec.xor_self,BitVec.zero_xor]
 obtain⟨n,rfl⟩:=Int.eq_ofNat_of_zero_le h.1
 have e2:(BitVec.ofInt (IntKind.u8.bits) (n:Int)).toNat=n:=by
  rw[BitVec.ofInt_natCast,BitVec.toNat_ofNat]
  exact Nat.mod_eq_of_lt (by show n<256;omega)
 rw[e2,w8 zq0]
theorem Bax {k n p:List YB} (h1:p.length≤200) (h2:n.length≤100) (h3:k.length≤1048576) (hw:wfB p):mix k n (mix k n p)=p:=by
 have hl:(mix k n p).length=p.length:=Am5 h1 h2 h3
 have hs:=Aie k n p.length h1 h2 h3
 have e:mix k n p=Mm (D6 k n p.length) p p.length:=by unfold mix;rw[if_pos ⟨h1,h2,h3⟩]
 have g0: ∀q:List YB,q.length=p.length→mix k n q=Mm (D6 k n p.length) q p.length:=fun q hq=>by unfold mix;rw[hq,if_pos ⟨h1,h2,h3⟩]
 have e2:mix k n (mix k n p)=Mm (D6 k n p.length) (mix k n p) p.length:=g0 _ hl
 rw[e2,e]
 refine List.ext_getElem? fun i=>?_
 by_cases hi:i<p.length
 ·have hp:=List.getElem?_eq_getElem hi
  have hst:=List.getElem?_eq_getElem (show i<(D6 k n p.length).length by omega)
  have g: ∀q:List YB,(Mm (D6 k n p.length) q p.length)[i]? =some (Aat ((D6 k n p.length)[i]?.getD (0,())).1 (q[i]?.getD (0,())).1):=fun q=>by
   unfold Mm
   rw[List.getElem?_map,List.getElem?_range hi]
   rfl
  rw[g,g p,hp]
  simp only[Option.getD_some]
  rw[A7j (hw i _ hp)]
 ·rw[List.getElem?_eq_none (by rw[Aau];omega),List.getElem?_eq_none zq0]
theorem Azw {r:Int} {sn:List YB} {ep seq kind:Int} {p t u:List YB} (ht:t.length=16) (hu:u.length=16):Bs r (kind,0,[],sn,0,[],[],ep,seq,p,t,())=Bs r (kind,0,[],sn,0,[],[],ep,seq,p,u,()):=by
 unfold Bs
 cases hk:inR kind 4 8 with
 |false=>simp[hk]
 |true=>
  rw[Azn _ _ _ _ _ _ hk ht,Azn _ _ _ _ _ _ hk hu]
structure SealF (k:List YB) (r:Int) (sn:List YB) (ep seq kind:Int) (p:List YB):Prop where
 key:k.length=32
 sn12:sn.length=12
 role:inR r 0 1=true
 hd:Dc r sn ep seq=true
 kd:inR kind 4 8=true
 pl:p.length≤40
 ok:Bg (Be k r sn ep seq kind p).1=true
 eq:Be k r sn ep seq kind p=((kind,0,[],sn,0,[],[],ep,seq,mix k (Bz r sn ep seq) p,Jw k (Bs r (Be k r sn ep seq kind p).1),()),(true,()))
 tag:(Jw k (Bs r (Be k r sn ep seq kind p).1)).length=16
 mixl:(mix k (Bz r sn ep seq) p).length=p.length
theorem Xj {k:List YB} {r:Int} {sn:List YB} {ep seq kind:Int} {p:List YB} (h:D7 k r sn ep seq kind p=true):SealF k r sn ep seq kind p:=by
 have h':=h
 unfold D7 at h'
 simp only[Bool.and_eq_true]at h'
 obtain⟨a1,a2,a6,a7⟩:=h'
 have a2':=a2
 unfold Dc at a2'
 simp only[Bool.and_eq_true]at a2'
 obtain⟨b1,b2,b3,b4⟩:=a2'
 have hk:k.length=32:=by simp at a1;omega
 have hsn:sn.length=12:=by simp at b2;omega
 have hp:=Auf a7
 have hl:(Bz r sn ep seq).length≤23:=by rw[Ha];cases Dc r sn ep seq<;>simp
 have hm:(mix k (Bz r sn ep seq) p).length=p.length:=Am5 zq0 zq0 zq0
 have t16: ∀t:List YB,t.length=16→(Jw k (Bs r (kind,0,[],sn,0,[],[],ep,seq,mix k (Bz r sn ep seq) p,t,()))).length=16:=fun t ht=>by
  refine Aug zq0 (Nat.le_trans (Sd r _) ?_)
  simp only[As,List.length_nil,hsn,hm,ht];omega
 have z16:Gr.length=16:=by simp[Gr]
 have e:Be k r sn ep seq kind p=((kind,0,[],sn,0,[],[],ep,seq,mix k (Bz r sn ep seq) p,Jw k (Bs r (kind,0,[],sn,0,[],[],ep,seq,mix k (Bz r sn ep seq) p,Gr,())),()),(true,())):=by
  unfold Be;rw[h];rfl
 have e2:Bs r (Be k r sn ep seq kind p).1=Bs r (kind,0,[],sn,0,[],[],ep,seq,mix k (Bz r sn ep seq) p,Gr,()):=by
  rw[e];exact Azw (t16 _ z16) z16
 exact⟨hk,hsn,b1,a2,a6,by omega,Ri h,by rw[e2];exact e,by rw[e2];exact t16 _ z16,hm⟩
theorem Ast {k:List YB} {r:Int} {sn:List YB} {ep seq kind:Int} {p:List YB} (h:D7 k r sn ep seq kind p=true) (hw:wfB p):Pr (k,()) (r,()) (Be k r sn ep seq kind p).1=some ((p,()),(true,())):=by
 obtain⟨hk,hsn,hr,hd,hkd,hp,hok,heq,htag,hm⟩:=Xj h
 have hl:(Bz r sn ep seq).length≤23:=by rw[Ha];cases Dc r sn ep seq<;>simp
 have hne:=Nb k r sn ep seq kind p
 have hti:(((Bs r (Be k r sn ep seq kind p).1).length:Int)==0)=false:=by
  unfold Bs
  rw[hr,hok,show inR (Be k r sn ep seq kind p).1.1 4 8=true by rw[heq];exact hkd]
  simp;omega
 unfold Pr Ah4
 simp only[Ag,Ai,Ad]
 rw[Jx _ _ zq0,Aj]
 simp only[hti,show(((k.length:Int)) != 32)=false by simp[hk],An]
 rw[Axn,Aj]
 have e10:(Be k r sn ep seq kind p).1.2.2.2.2.2.2.2.2.2.2.1=Jw k (Bs r (Be k r sn ep seq kind p).1):=by conv=>lhs;rw[heq]
 rw[e10,Auj _ htag,Aj]
 simp only[Bool.not_true,An]
 have q4:(Be k r sn ep seq kind p).1.2.2.2.1=sn:=by rw[heq]
 have q8:(Be k r sn ep seq kind p).1.2.2.2.2.2.2.2.1=ep:=by rw[heq]
 have q9:(Be k r sn ep seq kind p).1.2.2.2.2.2.2.2.2.1=seq:=by rw[heq]
 have q10:(Be k r sn ep seq kind p).1.2.2.2.2.2.2.2.2.2.1=mix k (Bz r sn ep seq) p:=by rw[heq]
 rw[q4,q8,q9,q10,Aif,Aj,A4k,Aj,Bax zq0 zq0 zq0 hw]
end
end Go.Proofs.YtmhhajdeafijmaaGreat

/-
  That the program and the reference answer alike, in plain terms, and that the laws answer true.
-/
import Derived.Test.YtfljmgnghlpapaaGreatL8
namespace Go.Proofs.YtfljmgnghlpapaaGreat
open Go.RowKit
set_option linter.unusedVariables false
set_option linter.unusedSimpArgs false
set_option maxHeartbeats 4000000
noncomputable section
def Rz (h:List YI) (b:List YB):List YI×List YB:=if 64≤b.length then Rz (Iw h (b.take 64)) (b.drop 64)else(h,b)
termination_by b.length
decreasing_by simp;omega
theorem Ak9 {h:List YI} {b:List YB} (hb:64≤b.length):Rz h b=Rz (Iw h (b.take 64)) (b.drop 64):=by rw[Rz,if_pos hb]
theorem Ta {h:List YI} {b:List YB} (hb: ¬64≤b.length):Rz h b=(h,b):=by rw[Rz,if_neg hb]
theorem Ajm: ∀(n:Nat) (h:List YI) (b:List YB),b.length≤n→h.length≤1073741824→(Rz h b).2.length=b.length%64∧(Rz h b).1.length=h.length∧(D5 h=true→D5 (Rz h b).1=true):=by
 intro n
 induction n with
 |zero=>intro h b hn hh;rw[Ta zq0];exact⟨by simp;omega,rfl,id⟩
 |succ n ih=>
  intro h b hn hh
  by_cases hb:64≤b.length
  ·rw[Ak9 hb]
   have hc:=Acp h (b.take 64) hh zq1
   obtain⟨h1,h2,h3⟩:=ih (Iw h (b.take 64)) (b.drop 64) zq1 zq0
   refine⟨?_,by omega,fun hw=>h3 (hc.2 hw)⟩
   rw[h1,List.length_drop];omega
  ·rw[Ta hb];exact⟨by simp only;omega,rfl,id⟩
theorem Au0 (all:List YB) (ha:all.length≤4294967296): ∀(n i:Nat) (h:List YI),all.length-i≤n→i≤all.length→(all.length-i)%64=0→h.length≤1073741824→As K7 (all,h,(i:Int),())=some ((Rz h (all.drop i)).1,()):=by
 intro n
 induction n with
 |zero=>
  intro i h hn hi hm hh
  rw[Ta zq1,Cr]
  unfold K7
  simp only[Ah,Am,Ai,Ab]
  rw[Bn zq0,A1]
 |succ n ih=>
  intro i h hn hi hm hh
  rw[Cr]
  unfold K7
  simp only[Ah,Am,Ai,Ab]
  by_cases h64:i<all.length
  ·rw[Ao zq0,A9,Ao zq0,Bd,w64 (n:=(i:Int)+64) zq0,Ao zq0,Bd,Ao zq0,Bd]
   have e:(all.take ((i:Int)+64).toNat).drop ((i:Int)).toNat=(all.drop i).take 64:=by
    rw[show((i:Int)+64).toNat=i+64 by omega,Int.toNat_natCast,List.drop_take,Nat.add_sub_cancel_left]
   rw[e,Asv _ _ hh zq1,Ak]
   simp only
   have hc:=Acp h ((all.drop i).take 64) hh zq1
   rw[Ak9 (b:=all.drop i) zq1,List.drop_drop,show(i:Int)+64=((i+64:Nat):Int) by omega]
   exact ih (i+64) _ zq0 zq0 zq0 zq0
  ·rw[Bn zq0,A1,Ta zq1]
theorem An3 (m:Int) (j:Nat) (h0:0≤m) (h1:m<4294967296) (hj:4≤j) (hj2:j≤7):byt m j=((0:Int),()):=by
 have e:Int.fdiv m (2^(min (8*j) IntKind.i64.bits))=0:=by
  have hp:(4294967296:Int)≤2^(min (8*j) IntKind.i64.bits):=by
   have:j=4∨j=5∨j=6∨j=7:=by omega
   rcases this with rfl|rfl|rfl|rfl<;>decide
  rw[Int.fdiv_eq_ediv_of_nonneg _ zq0]
  exact Int.ediv_eq_zero_of_lt h0 zq0
 unfold byt
 rw[e];rfl
def Acq (n:Nat):Nat:=(64-(n+9)%64)%64
def Acr (n:Nat):List YB:=(((128:Int),())::List.replicate (Acq n) ((0:Int),()))++([((0:Int),()),((0:Int),())]++Ha (8*(n:Int)) 6 6)
theorem Awp (n:Nat):(Acr n).length=Acq n+9:=by simp[Acr,Ry]
theorem Ayi (n:Nat) (h:n≤1048576):As Lb ((n:Int),[((128:Int),())],())=some ((n:Int),((128:Int),())::List.replicate (Acq n) ((0:Int),()),()):=by
 have hk:Acq n=(64-(n+9)%64)%64:=rfl
 refine Co (B:=Lb) (Acq n) (fun i=>((n:Int),((128:Int),())::List.replicate i ((0:Int),()),())) _ (fun i hi=>?_) ?_
 ·unfold Lb
  simp only[Ah,Am,Ab,List.length_cons,List.length_replicate]
  rw[w64 (n:=(n:Int)+((i+1:Nat):Int)) zq0,w64 zq0,Ao zq0,Bd,Gj zq1,Ao zq1,Bd,List.cons_append,←List.replicate_succ']
 ·unfold Lb
  simp only[Ah,Am,Ab,List.length_cons,List.length_replicate]
  rw[w64 (n:=(n:Int)+((Acq n+1:Nat):Int)) zq0,w64 zq0,Ao zq0,Bd,Fg zq1]
theorem A0j (n:Nat) (h:n≤1048576):Ajg ((n:Int),())=some (Acr n,()):=by
 have hk:Acq n<64:=Nat.mod_lt _ zq0
 unfold Ajg Ai2
 simp only[Ah,Am,Ai,Ab,Ak]
 rw[Bn zq0,A1,Bn zq0,A1,show Aau=Lb from rfl,Ayi n h,Ak,Adp _ _ zq1,Ak,Adp _ _ (by simp[Ry];omega),Ak,w64 zq0]
 unfold Acr
 have e0:Ha 0 4 4=[((0:Int),()),((0:Int),()),((0:Int),()),((0:Int),())]:=by
  unfold Ha
  simp only[show List.range 4=[0,1,2,3]from rfl,List.map]
  rfl
 have e6:Ha (8*(n:Int)) 6 6=[((0:Int),()),((0:Int),())]++Ha (8*(n:Int)) 4 4:=by
  have a:=An3 (8*(n:Int)) 5 zq0 zq0 zq0 zq0
  have b:=An3 (8*(n:Int)) 4 zq0 zq0 zq0 zq0
  unfold Ha
  simp only[show List.range 4=[0,1,2,3]from rfl,show List.range 6=[0,1,2,3,4,5]from rfl,List.map]
  rw[show 6-1-0=5 from rfl,show 6-1-1=4 from rfl,a,b]
  rfl
 rw[e0,e6]
 simp
def X7 (l:List YI):List YB:=l.flatMap fun x=>Ha x.1 4 4
theorem Afz (l:List YI):(X7 l).length=4*l.length:=by
 unfold X7
 induction l with
 |nil=>rfl
 |cons x r ih=>simp only[List.flatMap_cons,List.length_append,Ry,ih,List.length_cons];omega
theorem Au1 (l:List YI) (x:YI):X7 (l++[x])=X7 l++Ha x.1 4 4:=by simp[X7]
theorem Ayj (l:List YI) (h:l.length=8):Aca (l,())=some (X7 l,()):=by
 have hr:=Co (B:=H3) 8 (fun i=>(l,X7 (l.take i),(i:Int),())) (X7 l,())
  (fun i hi=>by
   have hx:=List.getElem?_eq_getElem (show i<l.length by omega)
   unfold H3
   simp only[Ah,Ai,Ab]
   rw[Ao zq0,A9,B7 hx,Ak,Adp _ _ (by rw[Afz];simp;omega),Ak,w64 zq0,←Ew hx,Au1]
   rfl)
  (by unfold H3;simp only[Ah,Ab];rw[Bn zq0,A1,←h,List.take_length])
 unfold Aca Aax
 simp only[Ai,Ab]
 rw[show As H3 (l,[],(0:Int),())=_ from hr]
 rfl
def R0:List YI:=[((1779033703:Int),()),((3144134277:Int),()),((1013904242:Int),()),((2773480762:Int),()),((1359893119:Int),()),((2600822924:Int),()),((528734635:Int),()),((1541459225:Int),())]
def sha (b:List YB):List YB:=if b.length≤1048576 then X7 (Rz R0 (b++Acr b.length)).1 else []
theorem Arl (b:List YB):(sha b).length=32∨(sha b).length=0:=by
 unfold sha
 split
 ·left
  rw[Afz,(Ajm _ R0 _ (Nat.le_refl _) zq3).2.1];rfl
 ·right;rfl
theorem Asw (b:List YB):Vr (b,())=some (sha b,()):=by
 unfold Vr Ai6 sha
 simp only[Ah,Am,Ai,Ab,List.nil_append,List.length_nil,Nat.zero_add]
 by_cases h:b.length≤1048576
 ·have hp:=Awp b.length
  have hk:Acq b.length=(64-(b.length+9)%64)%64:=rfl
  have hl:=Au0 (b++Acr b.length) zq1 (b++Acr b.length).length 0 R0 zq0 zq0 zq1 zq3
  rw[List.drop_zero]at hl
  rw[Bn zq0,A1,Ao zq0,Bd,A0j _ h,Ak,Ao zq1,Bd,show Ak0=some (R0,())from rfl,Ak]
  rw[show As K7 (b++Acr b.length,R0,(0:Int),())=_ from hl,Ak]
  rw[Ayj _ ((Ajm _ R0 _ (Nat.le_refl _) zq3).2.1),if_pos h]
  rfl
 ·rw[Ao zq0,A9,if_neg h]
end
end Go.Proofs.YtfljmgnghlpapaaGreat

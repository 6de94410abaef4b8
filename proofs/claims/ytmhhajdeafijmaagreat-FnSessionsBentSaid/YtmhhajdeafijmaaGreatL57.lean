/-
  That the program and the reference answer alike, in plain terms, and that the laws answer true.
-/
import Derived.Test.YtmhhajdeafijmaaGreatL56
namespace Go.Proofs.YtmhhajdeafijmaaGreat
open Go.RowKit
set_option linter.unusedVariables false
set_option linter.unusedSimpArgs false
set_option maxRecDepth 100000
set_option maxHeartbeats 8000000
noncomputable section
theorem Asp (a:A7) (h:A0 a≤4294967296):Nx a a=some (true,()):=by
 have hl:a.2.2.1.length≤A0 a:=by simp only[A0];omega
 have e:=Cj (B:=Gi) a.2.2.1.length (fun i=>((i:Int),a.1,a.2.1,a.2.2.1,a.1,a.2.1,a.2.2.1,())) (.inr ())
  (fun i hi=>by
   have hx:=List.getElem?_eq_getElem hi
   unfold Gi
   simp only[Af,Ah,Ac,En hi,Az,Ce hx,Ai,beq_self_eq_true,Bool.and_true,Bool.not_true,Ap,Ti,bne_self_eq_false]
   rw[w64 zq0]
   rfl)
  (by unfold Gi;simp only[Af,Ac,Eo,Ap])
 unfold Nx T7
 simp only[Af,Ah,Ac,Hp,beq_self_eq_true,Bool.and_true,Bool.not_true,Ap,bne_self_eq_false]
 rw[show Ay Gi ((0:Int),a.1,a.2.1,a.2.2.1,a.1,a.2.1,a.2.2.1,())=_ from e]
 rfl
theorem Ahi (s:A4) (h:Bm s≤4294967296):P0 s s=some (true,()):=by
 have:=Qt s
 unfold P0 Wh
 simp only[Af,Ah,Ac,beq_self_eq_true,Az,Ti,Ai]
 rw[show Pz _ _=_ from Avp (Ew s) zq0]
 simp only[Ai,Az]
 rw[show Nx _ _=_ from Asp (B4 s) zq0]
 simp only[Ai,Az]
theorem Avq (n:A2):Wj n n=some (true,()):=by
 unfold Wj Wi
 simp only[Af,Ah,Ac,beq_self_eq_true,Az,Kr,Afq,Ai,Bool.and_true]
theorem Asq (l:List A2) (h:l.length≤4294967296):T9 (l,()) (l,())=some (true,()):=by
 have e:=Cj (B:=Gj) l.length (fun i=>(l,l,(i:Int),())) (.inr ())
  (fun i hi=>by
   have hx:=List.getElem?_eq_getElem hi
   unfold Gj
   simp only[Af,Ah,Ac,En hi,Az,Ce hx,Ai,Avq,Bool.not_true,Ap]
   rw[w64 zq0]
   rfl)
  (by unfold Gj;simp only[Af,Ac,Eo,Ap])
 unfold T9 T8
 simp only[Af,Ah,Ac,Hp,bne_self_eq_false,Ap]
 rw[show Ay Gj (l,l,(0:Int),())=_ from e]
 rfl
def N3 (s:A4):A4:=(s.1,s.2.1,s.2.2.1,0,[],0,[],0,0,[],0,[],0,0,[],false,0,[],0,0,[],A4w s,0,true,())
theorem A5y (s:A4) (h:Bm s≤4294967296) (ho:Hq s=true):Wk s=some (N3 s):=by
 have:=Qt s
 unfold Wk Ae6
 simp only[Af,Ah,Ac,An]
 rw[Lu s h,Ai,ho]
 simp only[Bool.not_true,Ap]
 rw[Dc _ zq2,Ai,Dc _ zq2,Ai]
 rfl
theorem A5z (s:A4) (h:Bm s≤4294967296) (ho:Hq s=false):Wk s=some s:=by
 unfold Wk Ae6
 simp only[Af,Ah,Ac,An]
 rw[Lu s h,Ai,ho]
 simp only[Bool.not_false,Az]
 rw[Qr s h,Ai]
theorem A3f (s:A4):Bm (N3 s)≤Bm s:=by
 simp only[Bm,N3,Cm,List.length_nil];omega
theorem A7j {s:A4} (ho:Hq s=true):Hq (N3 s)=true:=by
 unfold Hq at ho ⊢
 simp only[Bool.and_eq_true]at ho ⊢
 exact⟨ho.1,ho.2.1,ho.2.2.1,ho.2.2.2.1,rfl⟩
theorem A1j (s:A4) (n:YI) (a:Bw) (f:Au) (d:YBs) (h:Bm s≤4294967296) (ho:Hq s=false∨Acf s=true):Jf s n a f d=some (s,(([]:List Bj),()),(([]:List A2),()),(false,())):=by
 unfold Jf Pw
 simp only[Af,Ah,Ac,An]
 rw[Qr s h,Ai,Lu s h,Ai]
 cases e:Hq s with
 |false=>rfl
 |true=>
  rcases ho with ho|ho
  ·rw[e]at ho;cases ho
  ·simp only[Bool.not_true,Ap]
   rw[show s.2.2.2.2.2.2.2.2.2.2.2.2.2.2.2.2.2.2.2.2.2.2.2.1=true from ho,Az]
theorem A7k (s:A4) (h:Bm s≤4294967296) (ho:Acf s=true):Aao s=some (s,(([]:List Bj),()),(([]:List A2),())):=by
 unfold Aao Aan
 simp only[Af,Ah,Ac,An]
 rw[Qr s h,Ai,Lu s h,Ai]
 cases e:Hq s with
 |false=>rfl
 |true=>
  simp only[Bool.not_true,Ap]
  rw[show s.2.2.2.2.2.2.2.2.2.2.2.2.2.2.2.2.2.2.2.2.2.2.2.1=true from ho,Az]
theorem A50 (s:A4) (h:Bm s≤4294967296) (hs:Hq s=true) (ho:Acf s=true):Wm s ([((1:Int),())],())=some (s,(([]:List Bj),()),(([]:List A2),()),((6:Int),())):=by
 unfold Wm Wl
 simp only[Af,Ah,Ac,An]
 rw[Qr s h,Ai,Lu s h,Ai,hs]
 simp only[Bool.not_true,Ap]
 rw[show s.2.2.2.2.2.2.2.2.2.2.2.2.2.2.2.2.2.2.2.2.2.2.2.1=true from ho,Az]
 rfl
theorem A51 (s:A4):Uv (Ew (N3 s))=some (([]:List YBs),()):=by
 unfold Uv Ae7
 simp only[Af,Ah,Ac,An]
 rw[Lr _ (by show([]:List YI).length≤4294967296;decide) (by show([]:List YI).length≤4294967296;decide),Ai]
 rfl
theorem Aoa (a:YBs):S1 a=some (true,()):=by
 unfold S1 F6
 simp only[Ah,Af,Ac]
 rw[show A0z a=some (decide ((a.1.length:Int)>(1048576:Int)),())from rfl,Ai]
 by_cases hb:(a.1.length:Int)>1048576
 ·rw[Al hb,Az]
 rw[Bi hb,Ap]
 obtain⟨⟨s,n,ad,f,d⟩,e,⟨h1,h1b,h1c⟩,⟨h2,h2w⟩,h3⟩:=An9 a zq0
 dsimp only at h1 h1b h1c h2 h2w h3
 rw[e,Ai]
 dsimp only
 obtain⟨r,os,ns,k,c1,c2,c3,c4,c5⟩:=A0n s n ad f d zq0 zq0 zq0 h2w h1c
 rw[c1,c2]
 simp only[Ai]
 rw[Lu s zq0,Anz s zq0,Ahi r zq0,Asq ns zq0]
 simp only[Ai,beq_self_eq_true,Bool.not_true,Ap]
 cases ho:Hq s with
 |false=>
  have q:=A1j s n ad f d zq0 (.inl ho)
  rw[c1]at q
  simp only[Option.some.injEq,Prod.mk.injEq,and_true]at q
  obtain⟨rfl,rfl,rfl,rfl⟩:=q
  rw[A5z r zq0 ho,Ai]
  simp only[Bool.not_false,Az,Ahi r zq0,Ai]
  rfl
 |true=>
  have hB:=A3f s
  have hO:=A7j ho
  have hD:Acf (N3 s)=true:=rfl
  rw[A5y s zq0 ho,Ai]
  simp only[Bool.not_true,Ap]
  rw[A1j (N3 s) n ad f d zq0 (.inr hD),A7k (N3 s) zq0 hD,A50 (N3 s) zq0 hO hD]
  simp only[Ai]
  rw[show(N3 s).2.2.2.2.2.2.2.2.2.2.2.2.2.2.2.2.2.2.2.2.2.2.2.1=true from rfl,Az,Lu (N3 s) zq0,hO,Ai]
  simp only[Az,List.length_nil,Bool.not_false]
  rw[show Is ((N3 s).2.2.1,()) (s.2.2.1,())=some (true,())from Ti (s.2.2.1,()),Ai,show Uv _=_ from A51 s]
  rfl
end
end Go.Proofs.YtmhhajdeafijmaaGreat

/-
  That the program and the reference answer alike, in plain terms, and that the laws answer true.
-/
import Derived.Test.YtfljmgnghlpapaaGreatL3
namespace Go.Proofs.YtfljmgnghlpapaaGreat
open Go.RowKit
set_option linter.unusedVariables false
set_option linter.unusedSimpArgs false
set_option maxHeartbeats 4000000
noncomputable section
def Rv {E:Type} (q:E→Bool) (l:List E):Int:=(Ic (fun _ x=>q x) l 0).elim (-1) fun i=>(i:Int)
theorem Vs {E:Type} {q:E→Bool} {l:List E} {i:Nat} {x:E} (hx:l[i]? =some x) (hq:q x=true):0≤Rv q l∧Rv q l≤i:=by
 unfold Rv
 cases h:Ic (fun _ x=>q x) l 0 with
 |none=>
  have:=S9.1 h i x hx
  rw[hq]at this;cases this
 |some k=>
  obtain⟨j,y,rfl,h2,h3,h4⟩:=Acn h
  simp only[Option.elim,Nat.zero_add]
  rcases Nat.lt_or_ge i j with hh|hh
  ·have:=h4 i x hh hx
   try simp only at this
   rw[hq]at this;cases this
  ·omega
theorem Ari {E:Type} {q:E→Bool} {l:List E} {i:Nat} {x:E} (hx:l[i]? =some x) (hq:q x=true):decide (Rv q l<i)= !Dk (fun _ y=>q y) (l.take i):=by
 apply Mk
 have hb:=Vs hx hq
 rw[Bool.not_eq_true',decide_eq_true_iff]
 constructor
 ·intro hlt
  cases hn:Dk (fun _ y=>q y) (l.take i)with
  |false=>rfl
  |true=>
   rw[Jj]at hn
   unfold Rv at hlt hb
   cases h:Ic (fun _ x=>q x) l 0 with
   |none=>rw[h]at hb;simp at hb
   |some k=>
    rw[h]at hlt
    simp only[Option.elim]at hlt
    obtain⟨j,y,rfl,h2,h3,h4⟩:=Acn h
    have:=hn j y (by rw[List.getElem?_take,if_pos zq0];exact h2)
    try simp only at h3
    rw[this]at h3;cases h3
 ·intro hn
  rcases Int.lt_or_le (Rv q l) i with h|h
  ·exact h
  ·exfalso
   have hall:Dk (fun _ y=>q y) (l.take i)=true:=by
    rw[Jj]
    intro j y hj
    rw[List.getElem?_take]at hj
    split at hj
    ·rename_i hlt
     cases hq2:q y with
     |false=>rfl
     |true=>have:=Vs hj hq2;omega
    ·cases hj
   rw[hall]at hn;cases hn
theorem Any {E:Type} (q:E→Bool) (l:List E):(sm ((Ic (fun _ x=>q x) l 0).elim (Sum.inr ()) fun i=>Sum.inl ((i:Int),())) (fun c:Int×Unit=>some (c.1,())) fun _:Unit=>some ((-1:Int),()))=some (Rv q l,()):=by
 unfold Rv
 cases Ic (fun _ x=>q x) l 0<;>rfl
def Eb (l:List Af) (s:List YB):Int:=Rv (fun x=>D7 x.2.2.1 s) l
theorem Rw (t:A7) (a:YBs) (h:t.2.1.length≤4294967296):Cg t a=some (Eb t.2.1 a.1,()):=by
 obtain⟨cap,l,_⟩:=t
 obtain⟨s,_⟩:=a
 simp only at h
 have hl:=Oq (B:=Ip) l (fun i=>(s,l,(l.length:Int),(i:Int),())) (fun _ x=>D7 x.2.2.1 s) (fun i=>((i:Int),())) ()
  (fun i x hi hx=>by
   unfold Ip
   simp (disch:=omega) only[Ah,Ai,Ab,Db hi,A9,B7 hx,Ak,w64,U7]
   rfl)
  (by unfold Ip;simp only[Ah,Ab,Dc,A1])
 unfold Cg Xk
 simp only[Ai,Ab,Ej]
 rw[show((0:Int))=((0:Nat):Int)from rfl,hl]
 exact Any _ _
theorem Anz (t:A7) (a:YBs) (h:t.2.1.length≤4294967296):P2 t a=some (Eb t.2.1 a.1,()):=by
 obtain⟨cap,l,_⟩:=t
 obtain⟨s,_⟩:=a
 simp only at h
 have hl:=Oq (B:=Im) l (fun i=>(s,(i:Int),cap,l,())) (fun _ x=>D7 x.2.2.1 s) (fun i=>((i:Int),())) ()
  (fun i x hi hx=>by
   unfold Im
   simp (disch:=omega) only[Ah,Ai,Ab,Db hi,A9,B7 hx,Ak,w64,Ant]
   rfl)
  (by unfold Im;simp only[Ah,Ab,Dc,A1])
 unfold P2 W1
 simp only[Ai,Ab,Ej]
 rw[show((0:Int))=((0:Nat):Int)from rfl,hl]
 exact Any _ _
theorem P9 (a:List YB):D7 a a=true:=by simp[D7]
def Dy (t:A7):Int:=match Aq t with|some r=>r.1|none=>0
theorem Rx (t:A7) (h:t.2.1.length≤4294967296):Aq t=some (Dy t,()):=by
 obtain⟨r,h1,h2⟩:=Arg t h
 unfold Dy;rw[h1]
theorem Auw (t:A7) (h:t.2.1.length≤4294967296):Rk t=some (Dy t,()):=by
 obtain⟨r,h1,h2⟩:=Arg t h
 unfold Dy;rw[h1,h2]
def H9 (l:List Af) (i:Nat) (x:Af):Bool:= !(C6 x && !decide (Eb l x.2.2.1<i))
def Ec (t:A7):Bool:=inR t.1 1 6 && (!decide ((t.2.1.length:Int)>12) && (!decide (Dy t>t.1) && Dk (H9 t.2.1) t.2.1))
theorem Gb (t:A7) (h:A3 t≤4294967296):Al t=some (Ec t,()):=by
 obtain⟨cap,l,_⟩:=t
 simp only[A3]at h
 have hl:=Fk (B:=J4) l (fun i=>(l,(l.length:Int),(i:Int),cap,l,())) (H9 l) (false,()) ()
  (fun i x hi hx=>by
   have h2:=Ia (f:=Az) hx
   unfold J4
   simp only[Ah,Ai,Ab,Db hi,A9,B7 hx,Ak]
   rw[Ru x zq0,Rw _ _ zq2,w64 zq0]
   simp only[Ak,H9]
   cases C6 x<;>cases decide (Eb l x.2.2.1<(i:Int))<;>rfl)
  (by unfold J4;simp only[Ah,Ab,Dc,A1])
 unfold Al Ab2 Ec
 simp only[Ah,Ai,Ab,Ej,D0,Ak]
 rw[Rx _ zq2,show((0:Int))=((0:Nat):Int)from rfl,hl]
 simp only[Ak]
 cases inR cap 1 6<;>cases decide ((l.length:Int)>12)<;>cases decide (Dy (cap,l,())>cap)<;>cases Dk (H9 l) l<;>rfl
theorem Ado (t:A7) (h:A3 t≤4294967296):La t=some (Ec t,()):=by
 obtain⟨cap,l,_⟩:=t
 simp only[A3]at h
 have hl:=Fk (B:=J1) l (fun i=>((i:Int),cap,l,())) (H9 l) (false,()) ()
  (fun i x hi hx=>by
   have h2:=Ia (f:=Az) hx
   have h3:=Vs (q:=fun y=>D7 y.2.2.1 x.2.2.1) hx (P9 _)
   have h4:(Eb l x.2.2.1 != (i:Int))=decide (Eb l x.2.2.1<(i:Int)):=by
    apply Mk;unfold Eb;simp;omega
   unfold J1
   simp only[Ah,Ai,Ab,Db hi,A9,B7 hx,Ak]
   rw[Afy x zq0,Anz _ _ zq2,w64 zq0]
   simp only[Ak,H9,h4]
   cases C6 x<;>cases decide (Eb l x.2.2.1<(i:Int))<;>rfl)
  (by unfold J1;simp only[Ah,Ab,Dc,A1])
 unfold La Abp Ec
 simp only[Ah,Ai,Ab,Ej,Dd,Ak]
 rw[Auw _ zq2,show((0:Int))=((0:Nat):Int)from rfl,hl]
 simp only[Ak]
 cases inR cap 1 6<;>cases decide ((l.length:Int)>12)<;>cases decide (Dy (cap,l,())>cap)<;>cases Dk (H9 l) l<;>rfl
end
end Go.Proofs.YtfljmgnghlpapaaGreat

/-
  That the program and the reference answer alike, in plain terms, and that the laws answer true.
-/
import Derived.Test.YtfljmgnghlpapaaGreatL3
namespace Go.Proofs.YtfljmgnghlpapaaGreat
open Go.RowKit
set_option linter.unusedVariables false
set_option linter.unusedSimpArgs false
set_option maxHeartbeats 4000000
noncomputable section
def L9 {E:Type} (q:E→Bool) (l:List E):Int:=(G6 (fun _ x=>q x) l 0).elim (-1) fun i=>(i:Int)
theorem Any {E:Type} {q:E→Bool} {l:List E} {i:Nat} {x:E} (hx:l[i]? =some x) (hq:q x=true):0≤L9 q l∧L9 q l≤i:=by
 unfold L9
 cases h:G6 (fun _ x=>q x) l 0 with
 |none=>
  have:=Aam.1 h i x hx
  rw[hq]at this;cases this
 |some k=>
  obtain⟨j,y,rfl,h2,h3,h4⟩:=Tv h
  simp only[Option.elim,Nat.zero_add]
  rcases Nat.lt_or_ge i j with hh|hh
  ·have:=h4 i x hh hx
   try simp only at this
   rw[hq]at this;cases this
  ·omega
theorem Av6 {E:Type} {q:E→Bool} {l:List E} {i:Nat} {x:E} (hx:l[i]? =some x) (hq:q x=true):decide (L9 q l<i)= !C6 (fun _ y=>q y) (l.take i):=by
 apply G5
 have hb:=Any hx hq
 rw[Bool.not_eq_true',decide_eq_true_iff]
 constructor
 ·intro hlt
  cases hn:C6 (fun _ y=>q y) (l.take i)with
  |false=>rfl
  |true=>
   rw[Hq]at hn
   unfold L9 at hlt hb
   cases h:G6 (fun _ x=>q x) l 0 with
   |none=>rw[h]at hb;simp at hb
   |some k=>
    rw[h]at hlt
    simp only[Option.elim]at hlt
    obtain⟨j,y,rfl,h2,h3,h4⟩:=Tv h
    have:=hn j y (by rw[List.getElem?_take,if_pos zq0];exact h2)
    try simp only at h3
    rw[this]at h3;cases h3
 ·intro hn
  rcases Int.lt_or_le (L9 q l) i with h|h
  ·exact h
  ·exfalso
   have hall:C6 (fun _ y=>q y) (l.take i)=true:=by
    rw[Hq]
    intro j y hj
    rw[List.getElem?_take]at hj
    split at hj
    ·rename_i hlt
     cases hq2:q y with
     |false=>rfl
     |true=>have:=Any hj hq2;omega
    ·cases hj
   rw[hall]at hn;cases hn
theorem Av7 {E:Type} {q:E→Bool} {l:List E}: -1≤L9 q l∧L9 q l<l.length:=by
 unfold L9
 cases h:G6 (fun _ x=>q x) l 0 with
 |none=>simp[Option.elim];omega
 |some k=>
  obtain⟨j,y,rfl,h2,_⟩:=Tv h
  have:=(List.getElem?_eq_some_iff.1 h2).1
  simp[Option.elim];omega
theorem Amp {E:Type} (q:E→Bool) (l:List E):(sm ((G6 (fun _ x=>q x) l 0).elim (Sum.inr ()) fun i=>Sum.inl ((i:Int),())) (fun c:Int×Unit=>some (c.1,())) fun _:Unit=>some ((-1:Int),()))=some (L9 q l,()):=by
 unfold L9
 cases G6 (fun _ x=>q x) l 0<;>rfl
def Es (l:List Ad) (s:List YB):Int:=L9 (fun x=>Ds x.2.2.1 s) l
theorem Ah0 (t:Bp) (a:YBs) (h:t.2.1.length≤4294967296):Qj t a=some (Es t.2.1 a.1,()):=by
 obtain⟨cap,l,_⟩:=t
 obtain⟨s,_⟩:=a
 simp only at h
 have hl:=Ma (B:=Li) l (fun i=>(s,l,(l.length:Int),(i:Int),())) (fun _ x=>Ds x.2.2.1 s) (fun i=>((i:Int),())) ()
  (fun i x hi hx=>by
   unfold Li
   simp (disch:=omega) only[Ac,Ae,Ab,By hi,A4,Bk hx,Ai,w64,N4]
   rfl)
  (by unfold Li;simp only[Ac,Ab,Bz,Au])
 unfold Qj Agl
 simp only[Ae,Ab,Dn]
 rw[show((0:Int))=((0:Nat):Int)from rfl,hl]
 exact Amp _ _
theorem A15 (t:Bp) (a:YBs) (h:t.2.1.length≤4294967296):Vi t a=some (Es t.2.1 a.1,()):=by
 obtain⟨cap,l,_⟩:=t
 obtain⟨s,_⟩:=a
 simp only at h
 have hl:=Ma (B:=Lf) l (fun i=>(s,(i:Int),cap,l,())) (fun _ x=>Ds x.2.2.1 s) (fun i=>((i:Int),())) ()
  (fun i x hi hx=>by
   unfold Lf
   simp (disch:=omega) only[Ac,Ae,Ab,By hi,A4,Bk hx,Ai,w64,A11]
   rfl)
  (by unfold Lf;simp only[Ac,Ab,Bz,Au])
 unfold Vi Aff
 simp only[Ae,Ab,Dn]
 rw[show((0:Int))=((0:Nat):Int)from rfl,hl]
 exact Amp _ _
theorem Qs (a:List YB):Ds a a=true:=by simp[Ds]
def Ga (t:Bp):Int:=match Ea t with|some r=>r.1|none=>0
theorem Tw (t:Bp) (h:t.2.1.length≤4294967296):Ea t=some (Ga t,()):=by
 obtain⟨r,h1,h2⟩:=A6i t h
 unfold Ga;rw[h1]
theorem Bay (t:Bp) (h:t.2.1.length≤4294967296):Xf t=some (Ga t,()):=by
 obtain⟨r,h1,h2⟩:=A6i t h
 unfold Ga;rw[h1,h2]
def Gs (l:List Ad) (i:Nat) (x:Ad):Bool:= !(Cs x && !decide (Es l x.2.2.1<i))
def Ev (t:Bp):Bool:=inR t.1 1 6 && (!decide ((t.2.1.length:Int)>12) && (!decide (Ga t>t.1) && C6 (Gs t.2.1) t.2.1))
theorem Vz (t:Bp) (h:Bg t≤4294967296):L3 t=some (Ev t,()):=by
 obtain⟨cap,l,_⟩:=t
 simp only[Bg]at h
 have hl:=D4 (B:=Nr) l (fun i=>(l,(l.length:Int),(i:Int),cap,l,())) (Gs l) (false,()) ()
  (fun i x hi hx=>by
   have h2:=Fb (f:=Aw) hx
   unfold Nr
   simp only[Ac,Ae,Ab,By hi,A4,Bk hx,Ai]
   rw[Oy x zq0,Ah0 _ _ zq2,w64 zq0]
   simp only[Ai,Gs]
   cases Cs x<;>cases decide (Es l x.2.2.1<(i:Int))<;>rfl)
  (by unfold Nr;simp only[Ac,Ab,Bz,Au])
 unfold L3 Ali Ev
 simp only[Ac,Ae,Ab,Dn,Bw,Ai]
 rw[Tw _ zq2,show((0:Int))=((0:Nat):Int)from rfl,hl]
 simp only[Ai]
 cases inR cap 1 6<;>cases decide ((l.length:Int)>12)<;>cases decide (Ga (cap,l,())>cap)<;>cases C6 (Gs l) l<;>rfl
theorem A6k (t:Bp) (h:Bg t≤4294967296):Aae t=some (Ev t,()):=by
 obtain⟨cap,l,_⟩:=t
 simp only[Bg]at h
 have hl:=D4 (B:=Nm) l (fun i=>((i:Int),cap,l,())) (Gs l) (false,()) ()
  (fun i x hi hx=>by
   have h2:=Fb (f:=Aw) hx
   have h3:=Any (q:=fun y=>Ds y.2.2.1 x.2.2.1) hx (Qs _)
   have h4:(Es l x.2.2.1 != (i:Int))=decide (Es l x.2.2.1<(i:Int)):=by
    apply G5;unfold Es;simp;omega
   unfold Nm
   simp only[Ac,Ae,Ab,By hi,A4,Bk hx,Ai]
   rw[Ahz x zq0,A15 _ _ zq2,w64 zq0]
   simp only[Ai,Gs,h4]
   cases Cs x<;>cases decide (Es l x.2.2.1<(i:Int))<;>rfl)
  (by unfold Nm;simp only[Ac,Ab,Bz,Au])
 unfold Aae Akg Ev
 simp only[Ac,Ae,Ab,Dn,Df,Ai]
 rw[Bay _ zq2,show((0:Int))=((0:Nat):Int)from rfl,hl]
 simp only[Ai]
 cases inR cap 1 6<;>cases decide ((l.length:Int)>12)<;>cases decide (Ga (cap,l,())>cap)<;>cases C6 (Gs l) l<;>rfl
def X5 (l:List Ak) (a:Bi):Int:=L9 (fun x=>eqA x.1 x.2.1 a.1 a.2.1) l
theorem A76 (l:List Ak) (a:Bi) (h:l.length≤4294967296):Xq (l,()) a=some (X5 l a,()):=by
 obtain⟨p,q,_⟩:=a
 have hl:=Ma (B:=Jg) l (fun i=>(l,(l.length:Int),(i:Int),p,q,())) (fun _ x=>eqA x.1 x.2.1 p q) (fun i=>((i:Int),())) ()
  (fun i x hi hx=>by
   unfold Jg
   simp (disch:=omega) only[Ac,Ae,Ab,By hi,A4,Bk hx,Ai,w64]
   rfl)
  (by unfold Jg;simp only[Ac,Ab,Bz,Au])
 unfold Xq Wu
 simp only[Ae,Ab,Dn]
 rw[show((0:Int))=((0:Nat):Int)from rfl,hl]
 exact Amp _ _
theorem Av8 (l:List Ak) (a:Bi) (h:l.length≤4294967296):Ts (l,()) a=some (X5 l a,()):=by
 obtain⟨p,q,_⟩:=a
 have hl:=Ma (B:=No) l (fun i=>(l,(i:Int),p,q,())) (fun _ x=>eqA x.1 x.2.1 p q) (fun i=>((i:Int),())) ()
  (fun i x hi hx=>by
   unfold No
   simp (disch:=omega) only[Ac,Ae,Ab,By hi,A4,Bk hx,Ai,w64]
   rfl)
  (by unfold No;simp only[Ac,Ab,Bz,Au])
 unfold Ts Ak2
 simp only[Ae,Ab,Dn]
 rw[show((0:Int))=((0:Nat):Int)from rfl,hl]
 exact Amp _ _
theorem Bc5 (a b:Int):eqA a b a b=true:=by simp[eqA]
def Rv (l:List Ak) (i:Nat) (x:Ak):Bool:=
 !(D3 (x.1,x.2.1,()) && (inR x.2.2.1 0 1000000 && (inR x.2.2.2.1 0 (IntKind.i64.wrap (3*x.2.2.1)) && !decide (X5 l (x.1,x.2.1,())<i))))
def Iv (l:List Ak):Bool:= !decide ((l.length:Int)>8) && C6 (Rv l) l
theorem A5h (l:List Ak) (h:l.length≤4294967296):Ux (l,())=some (Iv l,()):=by
 have hl:=D4 (B:=Ip) l (fun i=>(l,l,(l.length:Int),(i:Int),())) (Rv l) (false,()) ()
  (fun i x hi hx=>by
   unfold Ip
   simp only[Ac,Ae,Ab,By hi,A4,Bk hx,Ai,Ow,Bw]
   rw[A76 _ _ h,w64 (n:=(i:Int)+1) zq0]
   simp only[Ai,Rv]
   cases D3 (x.1,x.2.1,())<;>cases inR x.2.2.1 0 1000000<;>cases inR x.2.2.2.1 0 (IntKind.i64.wrap (3*x.2.2.1))<;>cases decide (X5 l (x.1,x.2.1,())<(i:Int))<;>rfl)
  (by unfold Ip;simp only[Ac,Ab,Bz,Au])
 unfold Ux Ul Iv
 simp only[Ac,Ae,Ab,Dn]
 rw[show((0:Int))=((0:Nat):Int)from rfl,hl]
 simp only[Ai]
 cases decide ((l.length:Int)>8)<;>cases C6 (Rv l) l<;>rfl
theorem Bc6 (l:List Ak) (h:l.length≤4294967296) (i:Nat) (x:Ak) (hx:l[i]? =some x):
  As Fg (l,(i:Int),(0:Int),())=some (bif C6 (fun _ y=>eqA y.1 y.2.1 x.1 x.2.1) (l.take i)then .inr (l,(i:Int),())else .inl (false,())):=by
 have hi:=(List.getElem?_eq_some_iff.1 hx).1
 have hlen:(l.take i).length=i:=by simp;omega
 have hl:=D4 (B:=Fg) (l.take i) (fun j=>(l,(i:Int),(j:Int),())) (fun _ y=>eqA y.1 y.2.1 x.1 x.2.1) (false,()) (l,(i:Int),())
  (fun j y hj hy=>by
   have hy2:l[j]? =some y:=by rw[List.getElem?_take]at hy;split at hy;exact hy;cases hy
   unfold Fg
   simp (disch:=omega) only[Ac,Ae,Ab,By (show j<i by omega),A4,Bk hy2,Bk hx,Ai,w64]
   rfl)
  (by unfold Fg;rw[hlen];simp only[Ac,Ab,Bz,Au])
 rw[show((0:Int))=((0:Nat):Int)from rfl,hl]
theorem S8 (l:List Ak) (h:l.length≤4294967296):Ih (l,())=some (Iv l,()):=by
 have hl:=D4 (B:=Gk) l (fun i=>(l,(i:Int),())) (Rv l) (false,()) ()
  (fun i x hi hx=>by
   have h3:=Av6 (q:=fun y:Ak=>eqA y.1 y.2.1 x.1 x.2.1) hx (Bc5 _ _)
   unfold Gk
   simp only[Ac,Ae,Ab,Dn,By hi,A4,Bk hx,Ai,Ox,Df]
   rw[Bc6 l h i x hx]
   unfold Rv X5
   simp only[Ai]
   rw[h3]
   cases D3 (x.1,x.2.1,())<;>cases inR x.2.2.1 0 1000000<;>cases inR x.2.2.2.1 0 (IntKind.i64.wrap (3*x.2.2.1))<;>cases C6 (fun _ (y:Ak)=>eqA y.1 y.2.1 x.1 x.2.1) (l.take i)<;>first|rfl|(simp only[cond_true,Av3,br,Bool.not_true];rw[w64 zq0];rfl))
  (by unfold Gk;simp only[Ac,Ab,Bz,Au])
 unfold Ih Od Iv
 simp only[Ac,Ae,Ab,Dn]
 rw[show((0:Int))=((0:Nat):Int)from rfl,hl]
 simp only[Ai]
 cases decide ((l.length:Int)>8)<;>cases C6 (Rv l) l<;>rfl
end
end Go.Proofs.YtfljmgnghlpapaaGreat

/-
  That the program and the reference answer alike, in plain terms, and that the laws answer true.
-/
import Derived.Test.YthccfdmiejmbaaaDoorH
namespace Go.Proofs.YthccfdmiejmbaaaDoor
open Go.RowKit
set_option linter.unusedVariables false
set_option linter.unusedSimpArgs false
set_option maxHeartbeats 4000000
noncomputable section
def inR (n lo hi:Int):Bool:=decide (lo<=n) && decide (n<=hi)
theorem Oc (n lo hi:YI):Cn n lo hi=some (inR n.1 lo.1 hi.1,()):=by
 unfold Cn Ns inR
 simp only[Am,Ad,Ahl]
 split<;>rename_i h<;>simp at h<;>simp[h]
 all_goals omega
theorem Mz (n lo hi:YI):Cu n lo hi=some (inR n.1 lo.1 hi.1,()):=by
 unfold Cu Si inR
 simp only[Am,Ad,Ahl]
 split<;>rename_i h<;>simp at h<;>simp[h]
 all_goals omega
def Cg (a b:List YB):Bool:=decide (Cr a=Cr b)
theorem R1 (a b:YBs):A7 a b=some (Cg a.1 b.1,()):=rfl
theorem Qh (b c:Bool):br b (some (c,())) (some (false,()))=some (b && c,()):=by cases b<;>rfl
theorem Xt (b c d:Bool):br b (some (c,())) (some (d,()))=some (bif b then c else d,()):=by cases b<;>rfl
def Fl (a:Bt):Bool:=inR a.1 0 4294967295 && inR a.2.1 0 65535
theorem X8 (a:Bt):H8 a=some (Fl a,()):=by
 unfold H8 Nu Fl
 simp only[Am,Ar,Ad,Oc,As,Qh]
theorem X9 (a:Bt):Ia a=some (Fl a,()):=by
 unfold Ia Nx Fl
 simp only[Am,Ar,Ad,Mz,As,Qh]
theorem Adz (a:YBs):D9 a=some ((a.1.length:Int)==12,()):=rfl
theorem Ke {n lo hi:Int}:inR n lo hi=true↔lo<=n/\n<=hi:=by simp[inR]
theorem Ad0 (l:List YB):Cg l []=((l.length:Int)==0):=by
 apply Gp
 unfold Cg Cr
 cases l<;>simp
 omega
def eqA (a b c d:Int):Bool:=and (a==c) (and (b==d) true)
theorem Ach (a:List YB):Cg a a=true:=by simp[Cg]
theorem Hq {E:Type} {l:List E} {i:Nat} {x:E} (h:l[i]? =some x):l.take i++[x]=l.take (i+1):=by
 rw[List.take_add_one,h];rfl
theorem Vi (b:YBs) (h:b.1.length<=4294967296):Lj b=some b:=by
 unfold Lj Pz
 simp only[Aw,Ad,List.length_nil,Nat.zero_add,List.nil_append]
 rw[Al h];rfl
theorem Mk (l:List Ag) (h:l.length+F6 Do l<=4294967296):Fk (l,())=some (l,()):=by
 have hl:=E4 (B:=Dd) l.length (fun i=>(l.take i,l,(l.length:Int),(i:Int),())) (l,())
  (fun i hi=>by
   have hx:=List.getElem?_eq_getElem hi
   have h2:=Agp (f:=Do) hx
   simp only[Do]at h2
   unfold Dd
   simp only[Am,Ar,Ad,Aw,K2 hi,Bo,D2 hx,As]
   rw[Vi _ (by dsimp only;omega),As,Al zq0,Au,w64 zq1]
   exact congrArg (fun t=>some (Sum.inl (t,l,(l.length:Int),(i:Int)+1,()))) (Hq hx))
  (by unfold Dd;simp only[Am,Ad,K3,A9,List.take_length])
 unfold Fk Jx
 simp only[Ar,Ad]
 rw[show Ay Dd ([],l,(l.length:Int),(0:Int),())=some (l,())from hl]
 rfl
def Ej (w:Ag):Bool:=Fl (w.1,w.2.1,()) && (Fl (w.2.2.1,w.2.2.2.1,()) && decide ((w.2.2.2.2.1.length:Int)<=200))
theorem Su (w:Ag):Gm w=some (Ej w,()):=by
 unfold Gm Nv Ej
 simp only[Am,Ar,Ad,X8,As,Qh]
theorem Sv (w:Ag):Ib w=some (Ej w,()):=by
 unfold Ib Ny Ej
 simp only[Am,Ar,Ad,X9,As,Qh]
def Cz (l:List Ag):Bool:=Ka (fun _ x=> !Ej x) l && decide ((l.length:Int)<=90)
theorem Qi (l:List Ag) (h:l.length<=4294967296):Fv (l,())=some (Cz l,()):=by
 have hl:=Wl (B:=Fi) l (fun i=>(l,l,(l.length:Int),(i:Int),())) (fun _ x=> !Ej x) (false,()) (l,())
  (fun i x hi hx=>by
   unfold Fi
   simp (disch:=omega) only[Am,Ar,Ad,K2 hi,Bo,D2 hx,As,w64,Su]
   rfl)
  (by unfold Fi;simp only[Am,Ad,K3,A9])
 unfold Fv Mb Cz
 simp only[Ar,Ad,T8]
 rw[show((0:Int))=((0:Nat):Int)from rfl,hl]
 simp only[As]
 cases Ka (fun _ (x:Ag)=> !Ej x) l<;>rfl
theorem Ad1 (l:List Ag) (h:l.length<=4294967296):Mj (l,())=some (Cz l,()):=by
 have hl:=Wl (B:=Fj) l (fun i=>(l,(i:Int),())) (fun _ x=> !Ej x) (false,()) (l,())
  (fun i x hi hx=>by
   unfold Fj
   simp (disch:=omega) only[Am,Ar,Ad,K2 hi,Bo,D2 hx,As,w64,Sv]
   rfl)
  (by unfold Fj;simp only[Am,Ad,K3,A9])
 unfold Mj Me Cz
 simp only[Ar,Ad,T8]
 rw[show((0:Int))=((0:Nat):Int)from rfl,hl]
 simp only[As]
 cases Ka (fun _ (x:Ag)=> !Ej x) l<;>rfl
theorem T9 {E:Type} {q:E->Bool} {l:List E} {x:E}:Ka (fun _ y=>q y) (l++[x])=(Ka (fun _ y=>q y) l && !q x):=by
 apply Gp
 rw[Bool.and_eq_true,Abl,Abl,Bool.not_eq_true']
 constructor
 .intro h
  refine⟨fun j y hj=>h j y ?_,h l.length x (by simp)⟩
  rw[List.getElem?_append_left (List.getElem?_eq_some_iff.1 hj).1];exact hj
 .rintro⟨h1,h2⟩ j y hj
  rcases Nat.lt_or_ge j l.length with hlt|hge
  .rw[List.getElem?_append_left hlt]at hj;exact h1 j y hj
  .rw[List.getElem?_append_right hge]at hj
   have:j-l.length=0:=by
    have:=(List.getElem?_eq_some_iff.1 hj).1;simp at this;omega
   rw[this]at hj;simp at hj;subst hj;exact h2
def see (l:List Ag) (w:Ag):List Ag:=bif Cz (l++[w])then l++[w]else l
theorem Aif (l:List Ag) (w:Ag) (h:l.length+F6 Do l+Do w<=1073741824):Vg (l,()) w=some (see l w,()):=by
 have h1:(l++[w]).length+F6 Do (l++[w])<=4294967296:=by rw[Za];simp[F6];omega
 have h2:(l++[w]).length<=4294967296:=by omega
 unfold Vg U7 see
 simp only[Am,Ar,Ad,Aw,List.nil_append,List.length_nil,Nat.zero_add]
 rw[Al zq1,Au,Al zq0,Au,Mk _ h1,As,Qi _ h2,As,Mk l zq1,As]
 cases Cz (l++[w])<;>rfl
def byt (n:Int) (j:Nat):YB:=(IntKind.u8.wrap (IntKind.i64.wrap ((BitVec.ofInt (IntKind.i64.bits) (Int.fdiv n (2^(min (8*j) IntKind.i64.bits))) &&& BitVec.ofInt (IntKind.i64.bits) (255:Int)).toNat:Nat)),())
def E5 (n:Int) (k i:Nat):List YB:=(List.range i).map fun j=>byt n (k-1-j)
theorem Ea (n:Int) (k i:Nat):(E5 n k i).length=i:=by simp[E5]
theorem Agq:F4=E0:=rfl
theorem Zb (b:List YB) (n:Int) (k:Nat) (h1:1<=k) (h6:k<=6) (hl:b.length<=1073741824):E0 (b,()) (n,()) ((k:Int),())=some (b++E5 n k k,()):=by
 have hr:=E4 (B:=H4) k (fun i=>(n,b++E5 n k i,(k:Int)-1-(i:Int),())) (b++E5 n k k,())
  (fun i hi=>by
   unfold H4
   simp only[Am,Aw,Ad]
   have e:(8:Int)*((k:Int)-1-(i:Int))=((8*(k-1-i):Nat):Int):=by omega
   rw[Al zq1,Bo,w64 (n:=8*((k:Int)-1-(i:Int))) zq1,Al zq1,Au,Al zq2,Au,w64 (n:=(k:Int)-1-(i:Int)-1) zq1,e,Int.toNat_natCast]
   have e2:(b++E5 n k i)++[byt n (k-1-i)]=b++E5 n k (i+1):=by
    unfold E5;rw[List.range_succ,List.map_append,List.append_assoc];rfl
   rw[<-e2,show(k:Int)-1-((i+1:Nat):Int)=(k:Int)-1-(i:Int)-1 by omega]
   rfl)
  (by unfold H4;simp only[Am,Ad,Aw];rw[Df zq1,A9])
 unfold E0 Sl
 simp only[Am,Aw,Ar,Ad,List.nil_append,List.length_nil,Nat.zero_add]
 rw[Al zq1,Au,Df zq1,A9,Df zq1,A9,w64 zq1]
 have e0:(n,b,(k:Int)-1,())=(n,b++E5 n k 0,(k:Int)-1-((0:Nat):Int),()):=by simp[E5]
 rw[e0,hr]
 rfl
theorem Ad2 (b:List YB) (n:Int) (k:Nat) (h1:1<=k) (h6:k<=6) (hl:b.length<=1073741824):F4 (b,()) (n,()) ((k:Int),())=some (b++E5 n k k,()):=by
 rw[Agq];exact Zb b n k h1 h6 hl
theorem Vj (b:List YB) (n:Int) (hl:b.length<=1073741824):E0 (b,()) (n,()) ((4:Int),())=some (b++E5 n 4 4,()):=Zb b n 4 zq1 zq1 hl
theorem Agr (b:List YB) (n:Int) (hl:b.length<=1073741824):E0 (b,()) (n,()) ((6:Int),())=some (b++E5 n 6 6,()):=Zb b n 6 zq1 zq1 hl
theorem Vk (b:List YB) (n:Int) (hl:b.length<=1073741824):F4 (b,()) (n,()) ((4:Int),())=some (b++E5 n 4 4,()):=Ad2 b n 4 zq1 zq1 hl
theorem Ags (b:List YB) (n:Int) (hl:b.length<=1073741824):F4 (b,()) (n,()) ((6:Int),())=some (b++E5 n 6 6,()):=Ad2 b n 6 zq1 zq1 hl
def cat:List YBs->List YB
 |[]=>[]
 |x::r=>x.1++cat r
theorem Zc (l:List YBs) (x:YBs):cat (l++[x])=cat l++x.1:=by
 induction l with
 |nil=>simp[cat]
 |cons y r ih=>simp[cat,ih]
theorem Aa0 (l:List YBs) (i:Nat):(cat (l.take i)).length<=(cat l).length:=by
 induction l generalizing i with
 |nil=>simp
 |cons y r ih=>cases i with
  |zero=>simp[cat]
  |succ i=>simp[cat];exact ih i
theorem Od (l:List YBs) (h:(cat l).length<=4294967296) (h2:l.length<=4294967296):Gn (l,())=some (cat l,()):=by
 have hr:=E4 (B:=Ee) l.length (fun i=>(cat (l.take i),l,(l.length:Int),(i:Int),())) (cat l,())
  (fun i hi=>by
   have hx:=List.getElem?_eq_getElem hi
   have h3:=Aa0 l (i+1)
   rw[<-Hq hx,Zc]at h3
   simp only[List.length_append]at h3
   unfold Ee
   simp only[Am,Ar,Ad,Aw,K2 hi,Bo,D2 hx,As]
   rw[Al zq1,Au,w64 zq1,<-Zc,Hq hx]
   rfl)
  (by unfold Ee;simp only[Am,Ad,K3,A9,List.take_length])
 unfold Gn N5
 simp only[Ar,Ad]
 rw[show Ay Ee ([],l,(l.length:Int),(0:Int),())=some (cat l,())from hr]
 rfl
theorem Zd (n:YI):J9 n=some (inR n.1 4 8,()):=by
 unfold J9 N3
 simp only[Ar,Ad,Oc,As]
theorem Afe (n:YI):N7 n=some (inR n.1 4 8,()):=by
 unfold N7 Nn
 simp only[Ar,Ad,Mz,As]
def F7 (k n:Int):Bool:=bif k==4 then decide (n<=40)else bif k==5 then n==12 else bif k==6 then n==12 else n==4
theorem Aff (k n:YI):Ob k n=some (F7 k.1 n.1,()):=by
 unfold Ob N4 F7
 simp only[Am,Ad,Xt]
theorem Afg (k n:YI):N8 k n=some (F7 k.1 n.1,()):=by
 unfold N8 No F7
 simp only[Am,Ad,Xt]
theorem Aa1 (f g:A5):Dy f g=some ((f.1==g.1) && ((f.2.1==g.2.1) && ((f.2.2.2.2.1==g.2.2.2.2.1) && ((f.2.2.2.2.2.2.2.1==g.2.2.2.2.2.2.2.1) && ((f.2.2.2.2.2.2.2.2.1==g.2.2.2.2.2.2.2.2.1) && (Cg f.2.2.1 g.2.2.1 && (Cg f.2.2.2.1 g.2.2.2.1 &&
  (Cg f.2.2.2.2.2.1 g.2.2.2.2.2.1 && (Cg f.2.2.2.2.2.2.1 g.2.2.2.2.2.2.1 && (Cg f.2.2.2.2.2.2.2.2.2.1 g.2.2.2.2.2.2.2.2.2.1 && Cg f.2.2.2.2.2.2.2.2.2.2.1 g.2.2.2.2.2.2.2.2.2.2.1))))))))),()):=by
 unfold Dy J0
 simp only[Am,Ar,Ad,R1,As,Qh]
def Bh (f:A5):Bool:=
 bif inR f.1 4 8 then(f.2.1==0) && (((f.2.2.1.length:Int)==0) && (((f.2.2.2.1.length:Int)==12) && ((f.2.2.2.2.1==0) && (((f.2.2.2.2.2.1.length:Int)==0) && (((f.2.2.2.2.2.2.1.length:Int)==0) && (inR f.2.2.2.2.2.2.2.1 0 4294967295 && (inR f.2.2.2.2.2.2.2.2.1 0 281474976710655 &&
  (F7 f.1 (f.2.2.2.2.2.2.2.2.2.1.length:Int) && ((f.2.2.2.2.2.2.2.2.2.2.1.length:Int)==16)))))))))
 else(f.2.2.2.2.2.2.2.1==0) && ((f.2.2.2.2.2.2.2.2.1==0) && (((f.2.2.2.2.2.2.2.2.2.1.length:Int)==0) && (((f.2.2.2.2.2.2.2.2.2.2.1.length:Int)==0) && (((f.2.2.1.length:Int)==12) &&
  (bif f.1==1 then inR f.2.1 1 9 && (((f.2.2.2.1.length:Int)==0) && ((f.2.2.2.2.1==0) && (((f.2.2.2.2.2.1.length:Int)==0) && ((f.2.2.2.2.2.2.1.length:Int)==0))))
   else bif f.1==2 then(f.2.1==0) && (((f.2.2.2.1.length:Int)==12) && (inR f.2.2.2.2.1 0 1000000 && (((f.2.2.2.2.2.1.length:Int)==16) && ((f.2.2.2.2.2.2.1.length:Int)==0))))
   else(f.1==3) && (inR f.2.1 1 9 && (((f.2.2.2.1.length:Int)==12) && (inR f.2.2.2.2.1 0 1000000 && (((f.2.2.2.2.2.1.length:Int)==16) && ((f.2.2.2.2.2.2.1.length:Int)==16))))))))))
theorem Ad3 (f:A5):Mh f=some (Bh f,()):=by
 unfold Mh L4 Bh
 simp only[Am,Ar,Ad,Afe,Mz,Afg,As,Xt,bne,Bool.cond_false_right,Bool.cond_true_left,Bool.cond_false_left,Bool.not_not]
theorem Wm (f:A5):Bz f=some (Bh f,()):=by
 obtain⟨kind,id,cn,sn,tick,cookie,proof,epoch,seq,body,tag,_⟩:=f
 unfold Bz Mg Bh
 simp only[Am,Ar,Ad,Zd,Oc,Adz,Aff,Aa1,Ad0,Ach,beq_self_eq_true,Bool.true_and,Bool.and_true,As,Xt,Bool.cond_false_right,Bool.cond_true_left,Bool.cond_false_left,Bool.not_not]
 refine congrArg (fun b=>some (b,())) ?_
 by_cases h1:kind=1
 .subst h1
  apply Gp
  simp[inR]
  grind
 .by_cases h2:kind=2
  .subst h2
   apply Gp
   simp[inR]
   grind
  .by_cases h3:kind=3
   .subst h3
    apply Gp
    simp[inR]
    grind
   .have e1:(kind==1)=false:=by simpa using h1
    have e2:(kind==2)=false:=by simpa using h2
    have e3:(kind==3)=false:=by simpa using h3
    rw[e1,e2,e3]
    cases inR kind 4 8 with
    |false=>simp
    |true=>
     cases hb:F7 kind (body.length:Int)with
     |false=>simp
     |true=>
      apply Gp
      simp[inR]
      grind
def Bs (f:A5):List YB:=
 bif !Bh f then []else
 bif f.1==1 then(IntKind.u8.wrap f.1,())::(IntKind.u8.wrap f.2.1,())::(f.2.2.1++List.replicate 20 ((0:Int),()))
 else bif f.1==2 then(IntKind.u8.wrap f.1,())::(f.2.2.1++(f.2.2.2.1++(E5 f.2.2.2.2.1 4 4++f.2.2.2.2.2.1)))
 else bif f.1==3 then(IntKind.u8.wrap f.1,())::(IntKind.u8.wrap f.2.1,())::(f.2.2.1++(f.2.2.2.1++(E5 f.2.2.2.2.1 4 4++(f.2.2.2.2.2.1++f.2.2.2.2.2.2.1))))
 else(IntKind.u8.wrap f.1,())::(f.2.2.2.1++(E5 f.2.2.2.2.2.2.2.1 4 4++(E5 f.2.2.2.2.2.2.2.2.1 6 6++(f.2.2.2.2.2.2.2.2.2.2.1++f.2.2.2.2.2.2.2.2.2.1))))
theorem Agt (b:List YB) (hl:b.length<=1073741824):Ay Dc (b,(0:Int),())=some (b++List.replicate 20 ((0:Int),()),()):=by
 have hr:=E4 (B:=Dc) 20 (fun i=>(b++List.replicate i ((0:Int),()),(i:Int),())) (b++List.replicate 20 ((0:Int),()),())
  (fun i hi=>by
   unfold Dc
   simp only[Am,Aw,Ad]
   rw[Al zq1,Bo,Al zq0,Au,w64 zq1,List.append_assoc,<-List.replicate_succ']
   rfl)
  (by unfold Dc;simp only[Am,Ad,Aw];rfl)
 simpa using hr
theorem Ua (f:A5) (h:Bq f<=536870912):C8 f=some (Bs f,()):=by
 obtain⟨kind,id,cn,sn,tick,cookie,proof,epoch,seq,body,tag,_⟩:=f
 simp only[Bq]at h
 unfold C8 Kn Bs
 simp only[Am,Ar,Ad,Aw,Ad3,As]
 cases Bh (kind,id,cn,sn,tick,cookie,proof,epoch,seq,body,tag,PUnit.unit)with
 |false=>rfl
 |true=>
  simp only[Bool.not_true,A9,cond_false]
  cases kind==1 with
  |true=>
   simp only[Bo,cond_true]
   rw[Al (by simp),Au,Al zq0,Au,Agt _ zq0]
   simp[ob]
  |false=>
   cases kind==2 with
   |true=>
    simp only[Bo,A9,cond_true,cond_false]
    rw[Al zq0,Au,Al zq0,Au,Vj _ _ zq0,As,Al zq2,Au]
    simp
   |false=>
    cases kind==3 with
    |true=>
     simp only[Bo,A9,cond_true,cond_false]
     rw[Al (by simp),Au,Al zq0,Au,Al zq0,Au,Vj _ _ zq0,As,Al zq2,Au,Al zq2,Au]
     simp
    |false=>
     simp only[A9,cond_false]
     rw[Al zq0,Au,Vj _ _ zq0,As,Agr _ _ zq2,As,Al zq2,Au,Al zq2,Au]
     simp
theorem Aci (f:A5) (h:Bq f<=536870912):Bw f=some (Bs f,()):=by
 obtain⟨kind,id,cn,sn,tick,cookie,proof,epoch,seq,body,tag,_⟩:=f
 simp only[Bq]at h
 unfold Bw Kp Bs
 simp only[Am,Ar,Ad,Aw,Wm,As]
 cases Bh (kind,id,cn,sn,tick,cookie,proof,epoch,seq,body,tag,PUnit.unit)with
 |false=>rfl
 |true=>
  simp only[Bool.not_true,A9,cond_false]
  cases kind==1 with
  |true=>
   simp only[Bo,cond_true]
   rw[Od _ (by simp[cat];omega) (by simp)]
   simp[ob,cat]
  |false=>
   cases kind==2 with
   |true=>
    simp only[Bo,A9,cond_true,cond_false]
    rw[Vk _ _ (by simp),As,Od _ (by simp[cat,Ea];omega) (by simp)]
    simp[ob,cat]
   |false=>
    cases kind==3 with
    |true=>
     simp only[Bo,A9,cond_true,cond_false]
     rw[Vk _ _ (by simp),As,Od _ (by simp[cat,Ea];omega) (by simp)]
     simp[ob,cat]
    |false=>
     simp only[A9,cond_false]
     rw[Vk _ _ (by simp),As,Ags _ _ (by simp),As,Od _ (by simp[cat,Ea];omega) (by simp)]
     simp[ob,cat]
def Fm (l:List YB):Int:=l.foldl (fun n x=>IntKind.i64.wrap (IntKind.i64.wrap (n*256)+IntKind.i64.wrap x.1)) 0
theorem R2 (l:List YB) (x:YB):Fm (l++[x])=IntKind.i64.wrap (IntKind.i64.wrap (Fm l*256)+IntKind.i64.wrap x.1):=by simp[Fm]
def Ic (b:List YB) (p k:Int):YI×YI×(Bool×Unit):=
 if 1<=k/\k<=6/\0<=p/\p+k<=b.length then((Fm ((b.drop p.toNat).take k.toNat),()),(p+k,()),(true,()))else((0,()),(0,()),(false,()))
theorem Ub (b:List YB) (p k:Int) (hl:b.length<=4294967296):I2 (b,()) (p,()) (k,())=some (Ic b p k):=by
 unfold I2 Sr Ic
 simp only[Am,Ar,Ad]
 by_cases h1:k<1
 .rw[Al h1,Bo,if_neg zq1]
 rw[Df h1,A9]
 by_cases h2:k>6
 .rw[Al h2,Bo,if_neg zq1]
 rw[Df h2,A9]
 by_cases h3:p<0
 .rw[Al h3,Bo,if_neg zq1]
 rw[Df h3,A9,w64 (n:=(b.length:Int)-k) zq1]
 by_cases h4:p>(b.length:Int)-k
 .rw[Al h4,Bo,if_neg zq1]
 rw[Df h4,A9,if_pos zq1]
 have hr:=E4 (B:=Gl) k.toNat (fun i=>(b,p,k,Fm ((b.drop p.toNat).take i),(i:Int),())) (p,k,Fm ((b.drop p.toNat).take k.toNat),())
  (fun i hi=>by
   have hlt:p.toNat+i<b.length:=by omega
   have hx:=List.getElem?_eq_getElem hlt
   have hx2:(b.drop p.toNat)[i]? =some b[p.toNat+i]:=by rw[List.getElem?_drop];exact hx
   unfold Gl
   simp only[Am,Ar,Ad]
   rw[Al zq1,Bo,w64 (n:=p+(i:Int)) zq1,show p+(i:Int)=((p.toNat+i:Nat):Int) by omega,D2 hx,As,w64 (n:=(i:Int)+1) zq1,<-Hq hx2,R2]
   rfl)
  (by
   unfold Gl
   simp only[Am,Ar,Ad]
   rw[Df zq1,A9])
 rw[show Ay Gl (b,p,k,(0:Int),(0:Int),())=_ from hr,As]
 simp only
 rw[w64 zq1]
theorem Aig (b:List YB) (p n:Int) (hl:b.length<=4294967296):Vh (b,()) (p,()) (n,())=some (if 0<=p/\0<=n/\p+n<=b.length then(((b.drop p.toNat).take n.toNat,()),(true,()))else(([],()),(false,()))):=by
 unfold Vh Va
 simp only[Am,Aw,Ad]
 by_cases h1:p<0
 .rw[Al h1,Bo,if_neg zq1]
 rw[Df h1,A9]
 by_cases h2:n<0
 .rw[Al h2,Bo,if_neg zq1]
 rw[Df h2,A9]
 by_cases h3:p>(b.length:Int)
 .rw[Al h3,Bo,if_neg zq1]
 rw[Df h3,A9,w64 (n:=(b.length:Int)-p) zq1]
 by_cases h4:n>(b.length:Int)-p
 .rw[Al h4,Bo,if_neg zq1]
 rw[Df h4,A9,if_pos zq1,w64 (n:=p+n) zq1,Al zq1,Al zq1,Al zq1,Al zq0]
 simp only[Au,List.nil_append]
 rw[show(p+n).toNat=p.toNat+n.toNat by omega,List.drop_take,Nat.add_sub_cancel_left]
theorem Ahm (b:List YB) (p k:Int) (hl:b.length<=4294967296):Ss (b,()) (p,()) (k,())=some (Ic b p k):=by
 unfold Ss Sq Ic
 simp only[Am,Ar,Ad]
 by_cases h1:k<1
 .rw[Al h1,Bo,if_neg zq1]
 rw[Df h1,A9]
 by_cases h2:k>6
 .rw[Al h2,Bo,if_neg zq1]
 rw[Df h2,A9,Aig _ _ _ hl,As]
 by_cases h3:0<=p/\0<=k/\p+k<=b.length
 .rw[if_pos h3,if_pos zq1]
  simp only[Bool.not_true,A9]
  have hlen:((b.drop p.toNat).take k.toNat).length=k.toNat:=by simp;omega
  have hr:=E4 (B:=Gk) k.toNat (fun i=>(p,k,Fm (((b.drop p.toNat).take k.toNat).take i),(b.drop p.toNat).take k.toNat,(((b.drop p.toNat).take k.toNat).length:Int),(i:Int),())) (p,k,Fm ((b.drop p.toNat).take k.toNat),())
   (fun i hi=>by
    have hx:=List.getElem?_eq_getElem (show i<((b.drop p.toNat).take k.toNat).length by omega)
    unfold Gk
    simp only[Am,Ar,Ad]
    rw[Al zq1,Bo,D2 hx,As,w64 (n:=(i:Int)+1) zq1,<-Hq hx,R2,Int.mul_comm 256]
    rfl)
   (by
    unfold Gk
    simp only[Am,Ar,Ad]
    rw[Df zq1,A9,List.take_take,Nat.min_self])
  rw[show Ay Gk (p,k,(0:Int),(b.drop p.toNat).take k.toNat,(((b.drop p.toNat).take k.toNat).length:Int),(0:Int),())=_ from hr,As]
  simp only
  rw[w64 zq1]
 .rw[if_neg h3,if_neg zq1]
  rfl
def wfB (l:List YB):Prop:=∀(i:Nat) (x:YB),l[i]? =some x->0<=x.1/\x.1<=255
theorem Ml {E:Type} {p:E->Bool} {l:List E} {i:Nat} {x:E} (hx:l[i]? =some x):(l.take (i+1)).filter p=(l.take i).filter p++(bif p x then [x]else []):=by
 rw[<-Hq hx,List.filter_append]
 cases h:p x<;>simp[List.filter_cons,h]
theorem Wn {E:Type} {p:E->Bool} {l:List E} {i:Nat}:((l.take i).filter p).length<=i:=by
 have:=List.length_filter_le p (l.take i)
 simp only[List.length_take]at this;omega
theorem Agu (n:Nat):Nat.beq n n=true:=Nat.beq_refl n
theorem Ahn {i:Nat}:Nat.ble (Int.toNat (i:Int)+1) (Int.toNat ((i:Int)+1))=true:=by
 rw[show Int.toNat (i:Int)=i by omega,show Int.toNat ((i:Int)+1)=i+1 by omega]
 exact Nat.ble_eq_true_of_le (Nat.le_refl _)
def F8 (a b:Bt) (w:Ag):Bool:=eqA w.1 w.2.1 a.1 a.2.1 && eqA w.2.2.1 w.2.2.2.1 b.1 b.2.1
theorem Ad4 (l:List Ag) (a b:Bt) (h:l.length+F6 Do l<=4294967296):Mi (l,()) a b=some (l.filter (F8 a b),()):=by
 have hl:=E4 (B:=Di) l.length (fun i=>((l.take i).filter (F8 a b),l,(l.length:Int),(i:Int),a.1,a.2.1,b.1,b.2.1,())) (l.filter (F8 a b),())
  (fun i hi=>by
   have hx:=List.getElem?_eq_getElem hi
   have hle:=Wn (p:=F8 a b) (l:=l) (i:=i)
   have hs:=Ml (p:=F8 a b) hx
   have hp:F8 a b l[i]=(eqA l[i].1 l[i].2.1 a.1 a.2.1 && eqA l[i].2.2.1 l[i].2.2.2.1 b.1 b.2.1):=rfl
   unfold Di
   simp only[Am,Ar,Ad,Aw,K2 hi,Bo,D2 hx,As,Agu,Au]
   rw[w64 zq1,Ahn]
   simp only[Au]
   rw[hs,hp]
   unfold eqA
   cases (and (l[i].1==a.1) (and (l[i].2.1==a.2.1) true))with
   |false=>simp[A9]
   |true=>
    cases (and (l[i].2.2.1==b.1) (and (l[i].2.2.2.1==b.2.1) true))with
    |false=>simp[A9,Bo]
    |true=>
     simp only[Bo,Bool.and_self,cond_true]
     rw[Al zq0,Au]
     rfl)
  (by unfold Di;simp only[Am,Ad,K3,A9,List.take_length])
 unfold Mi Ji
 simp only[Ar,Ad]
 rw[Mk l h]
 simp only[As]
 rw[show Ay Di ([],l,(l.length:Int),(0:Int),a.1,a.2.1,b.1,b.2.1,())=_ from hl]
 rfl
end
end Go.Proofs.YthccfdmiejmbaaaDoor

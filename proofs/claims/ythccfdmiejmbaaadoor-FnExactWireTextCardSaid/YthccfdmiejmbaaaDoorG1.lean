/-
  That the program and the reference answer alike, in plain terms, and that the laws answer true.
-/
import Derived.Test.YthccfdmiejmbaaaDoorH
namespace Go.Proofs.YthccfdmiejmbaaaDoor
open Go.RowKit
set_option linter.unusedVariables false
set_option linter.unusedSimpArgs false
set_option maxHeartbeats 4000000
noncomputable section
def inR (n lo hi:Int):Bool:=decide (lo<=n) && decide (n<=hi)
theorem Lj (n lo hi:YI):B9 n lo hi=some (inR n.1 lo.1 hi.1,()):=by
 unfold B9 Kz inR
 simp only[Ao,Ah,W7]
 split<;>rename_i h<;>simp at h<;>simp[h]
 all_goals omega
theorem M7 (n lo hi:YI):Cu n lo hi=some (inR n.1 lo.1 hi.1,()):=by
 unfold Cu O6 inR
 simp only[Ao,Ah,W7]
 split<;>rename_i h<;>simp at h<;>simp[h]
 all_goals omega
def By (a b:List YB):Bool:=decide (Ch a=Ch b)
theorem Ot (a b:YBs):Ax a b=some (By a.1 b.1,()):=rfl
theorem M8 (b c:Bool):br b (some (c,())) (some (false,()))=some (b && c,()):=by cases b<;>rfl
theorem Tl (b c d:Bool):br b (some (c,())) (some (d,()))=some (bif b then c else d,()):=by cases b<;>rfl
def Eh (a:Bv):Bool:=inR a.1 0 4294967295 && inR a.2.1 0 65535
theorem T4 (a:Bv):Gn a=some (Eh a,()):=by
 unfold Gn K1 Eh
 simp only[Ao,Aw,Ah,Lj,Ap,M8]
theorem T5 (a:Bv):Gm a=some (Eh a,()):=by
 unfold Gm Kv Eh
 simp only[Ao,Aw,Ah,M7,Ap,M8]
theorem Zq (a:YBs):Dl a=some ((a.1.length:Int)==12,()):=rfl
theorem Ig {n lo hi:Int}:inR n lo hi=true↔lo<=n/\n<=hi:=by simp[inR]
theorem Zr (l:List YB):By l []=((l.length:Int)==0):=by
 apply Gq
 unfold By Ch
 cases l<;>simp
 omega
theorem W8 (a:List YB):By a a=true:=by simp[By]
theorem Jf {E:Type} {l:List E} {i:Nat} {x:E} (h:l[i]? =some x):l.take i++[x]=l.take (i+1):=by
 rw[List.take_add_one,h];rfl
theorem Wb (b:YBs) (h:b.1.length<=4294967296):M6 b=some b:=by
 unfold M6 Mu
 simp only[A5,Ah,List.length_nil,Nat.zero_add,List.nil_append]
 rw[Aj h];rfl
def M9 (w:Br):Bool:=Eh (w.1,w.2.1,()) && (Eh (w.2.2.1,w.2.2.2.1,()) && decide ((w.2.2.2.2.1.length:Int)<=200))
theorem Aau (w:Br):Lf w=some (M9 w,()):=by
 unfold Lf K2 M9
 simp only[Ao,Aw,Ah,T4,Ap,M8]
theorem Aav (w:Br):Lc w=some (M9 w,()):=by
 unfold Lc Kw M9
 simp only[Ao,Aw,Ah,T5,Ap,M8]
def byt (n:Int) (j:Nat):YB:=(IntKind.u8.wrap (IntKind.i64.wrap ((BitVec.ofInt (IntKind.i64.bits) (Int.fdiv n (2^(min (8*j) IntKind.i64.bits))) &&& BitVec.ofInt (IntKind.i64.bits) (255:Int)).toNat:Nat)),())
def D5 (n:Int) (k i:Nat):List YB:=(List.range i).map fun j=>byt n (k-1-j)
theorem F0 (n:Int) (k i:Nat):(D5 n k i).length=i:=by simp[D5]
theorem Ace:Ev=D4:=rfl
theorem T6 (b:List YB) (n:Int) (k:Nat) (h1:1<=k) (h6:k<=6) (hl:b.length<=1073741824):D4 (b,()) (n,()) ((k:Int),())=some (b++D5 n k k,()):=by
 have hr:=I2 (B:=Gi) k (fun i=>(n,b++D5 n k i,(k:Int)-1-(i:Int),())) (b++D5 n k k,())
  (fun i hi=>by
   unfold Gi
   simp only[Ao,A5,Ah]
   have e:(8:Int)*((k:Int)-1-(i:Int))=((8*(k-1-i):Nat):Int):=by omega
   rw[Aj zq0,Bu,w64 (n:=8*((k:Int)-1-(i:Int))) zq0,Aj zq0,An,Aj zq1,An,w64 (n:=(k:Int)-1-(i:Int)-1) zq0,e,Int.toNat_natCast]
   have e2:(b++D5 n k i)++[byt n (k-1-i)]=b++D5 n k (i+1):=by
    unfold D5;rw[List.range_succ,List.map_append,List.append_assoc];rfl
   rw[<-e2,show(k:Int)-1-((i+1:Nat):Int)=(k:Int)-1-(i:Int)-1 by omega]
   rfl)
  (by unfold Gi;simp only[Ao,Ah,A5];rw[De zq0,Be])
 unfold D4 O8
 simp only[Ao,A5,Aw,Ah,List.nil_append,List.length_nil,Nat.zero_add]
 rw[Aj zq0,An,De zq0,Be,De zq0,Be,w64 zq0]
 have e0:(n,b,(k:Int)-1,())=(n,b++D5 n k 0,(k:Int)-1-((0:Nat):Int),()):=by simp[D5]
 rw[e0,hr]
 rfl
theorem Zs (b:List YB) (n:Int) (k:Nat) (h1:1<=k) (h6:k<=6) (hl:b.length<=1073741824):Ev (b,()) (n,()) ((k:Int),())=some (b++D5 n k k,()):=by
 rw[Ace];exact T6 b n k h1 h6 hl
theorem Rk (b:List YB) (n:Int) (hl:b.length<=1073741824):D4 (b,()) (n,()) ((4:Int),())=some (b++D5 n 4 4,()):=T6 b n 4 zq0 zq0 hl
theorem Acf (b:List YB) (n:Int) (hl:b.length<=1073741824):D4 (b,()) (n,()) ((6:Int),())=some (b++D5 n 6 6,()):=T6 b n 6 zq0 zq0 hl
theorem Rl (b:List YB) (n:Int) (hl:b.length<=1073741824):Ev (b,()) (n,()) ((4:Int),())=some (b++D5 n 4 4,()):=Zs b n 4 zq0 zq0 hl
theorem Acg (b:List YB) (n:Int) (hl:b.length<=1073741824):Ev (b,()) (n,()) ((6:Int),())=some (b++D5 n 6 6,()):=Zs b n 6 zq0 zq0 hl
def cat:List YBs->List YB
 |[]=>[]
 |x::r=>x.1++cat r
theorem T7 (l:List YBs) (x:YBs):cat (l++[x])=cat l++x.1:=by
 induction l with
 |nil=>simp[cat]
 |cons y r ih=>simp[cat,ih]
theorem Vw (l:List YBs) (i:Nat):(cat (l.take i)).length<=(cat l).length:=by
 induction l generalizing i with
 |nil=>simp
 |cons y r ih=>cases i with
  |zero=>simp[cat]
  |succ i=>simp[cat];exact ih i
theorem Lk (l:List YBs) (h:(cat l).length<=4294967296) (h2:l.length<=4294967296):Ff (l,())=some (cat l,()):=by
 have hr:=I2 (B:=Do) l.length (fun i=>(cat (l.take i),l,(l.length:Int),(i:Int),())) (cat l,())
  (fun i hi=>by
   have hx:=List.getElem?_eq_getElem hi
   have h3:=Vw l (i+1)
   rw[<-Jf hx,T7]at h3
   simp only[List.length_append]at h3
   unfold Do
   simp only[Ao,Aw,Ah,A5,T1 hi,Bu,Gp hx,Ap]
   rw[Aj zq0,An,w64 zq0,<-T7,Jf hx]
   rfl)
  (by unfold Do;simp only[Ao,Ah,T2,Be,List.take_length])
 unfold Ff K7
 simp only[Aw,Ah]
 rw[show Bb Do ([],l,(l.length:Int),(0:Int),())=some (cat l,())from hr]
 rfl
theorem T8 (n:YI):H8 n=some (inR n.1 4 8,()):=by
 unfold H8 K5
 simp only[Aw,Ah,Lj,Ap]
theorem Aaw (n:YI):Ld n=some (inR n.1 4 8,()):=by
 unfold Ld Kx
 simp only[Aw,Ah,M7,Ap]
def Ez (k n:Int):Bool:=bif k==4 then decide (n<=40)else bif k==5 then n==12 else bif k==6 then n==12 else n==4
theorem Aax (k n:YI):Lg k n=some (Ez k.1 n.1,()):=by
 unfold Lg K6 Ez
 simp only[Ao,Ah,Tl]
theorem Aay (k n:YI):Le k n=some (Ez k.1 n.1,()):=by
 unfold Le Ky Ez
 simp only[Ao,Ah,Tl]
theorem Vx (f g:A0):Db f g=some ((f.1==g.1) && ((f.2.1==g.2.1) && ((f.2.2.2.2.1==g.2.2.2.2.1) && ((f.2.2.2.2.2.2.2.1==g.2.2.2.2.2.2.2.1) && ((f.2.2.2.2.2.2.2.2.1==g.2.2.2.2.2.2.2.2.1) && (By f.2.2.1 g.2.2.1 && (By f.2.2.2.1 g.2.2.2.1 &&
  (By f.2.2.2.2.2.1 g.2.2.2.2.2.1 && (By f.2.2.2.2.2.2.1 g.2.2.2.2.2.2.1 && (By f.2.2.2.2.2.2.2.2.2.1 g.2.2.2.2.2.2.2.2.2.1 && By f.2.2.2.2.2.2.2.2.2.2.1 g.2.2.2.2.2.2.2.2.2.2.1))))))))),()):=by
 unfold Db H2
 simp only[Ao,Aw,Ah,Ot,Ap,M8]
def A8 (f:A0):Bool:=
 bif inR f.1 4 8 then(f.2.1==0) && (((f.2.2.1.length:Int)==0) && (((f.2.2.2.1.length:Int)==12) && ((f.2.2.2.2.1==0) && (((f.2.2.2.2.2.1.length:Int)==0) && (((f.2.2.2.2.2.2.1.length:Int)==0) && (inR f.2.2.2.2.2.2.2.1 0 4294967295 && (inR f.2.2.2.2.2.2.2.2.1 0 281474976710655 &&
  (Ez f.1 (f.2.2.2.2.2.2.2.2.2.1.length:Int) && ((f.2.2.2.2.2.2.2.2.2.2.1.length:Int)==16)))))))))
 else(f.2.2.2.2.2.2.2.1==0) && ((f.2.2.2.2.2.2.2.2.1==0) && (((f.2.2.2.2.2.2.2.2.2.1.length:Int)==0) && (((f.2.2.2.2.2.2.2.2.2.2.1.length:Int)==0) && (((f.2.2.1.length:Int)==12) &&
  (bif f.1==1 then inR f.2.1 1 9 && (((f.2.2.2.1.length:Int)==0) && ((f.2.2.2.2.1==0) && (((f.2.2.2.2.2.1.length:Int)==0) && ((f.2.2.2.2.2.2.1.length:Int)==0))))
   else bif f.1==2 then(f.2.1==0) && (((f.2.2.2.1.length:Int)==12) && (inR f.2.2.2.2.1 0 1000000 && (((f.2.2.2.2.2.1.length:Int)==16) && ((f.2.2.2.2.2.2.1.length:Int)==0))))
   else(f.1==3) && (inR f.2.1 1 9 && (((f.2.2.2.1.length:Int)==12) && (inR f.2.2.2.2.1 0 1000000 && (((f.2.2.2.2.2.1.length:Int)==16) && ((f.2.2.2.2.2.2.1.length:Int)==16))))))))))
theorem Zt (f:A0):J1 f=some (A8 f,()):=by
 unfold J1 Jv A8
 simp only[Ao,Aw,Ah,Aaw,M7,Aay,Ap,Tl,bne,Bool.cond_false_right,Bool.cond_true_left,Bool.cond_false_left,Bool.not_not]
theorem Si (f:A0):Bj f=some (A8 f,()):=by
 obtain⟨kind,id,cn,sn,tick,cookie,proof,epoch,seq,body,tag,_⟩:=f
 unfold Bj Jx A8
 simp only[Ao,Aw,Ah,T8,Lj,Zq,Aax,Vx,Zr,W8,beq_self_eq_true,Bool.true_and,Bool.and_true,Ap,Tl,Bool.cond_false_right,Bool.cond_true_left,Bool.cond_false_left,Bool.not_not]
 refine congrArg (fun b=>some (b,())) ?_
 by_cases h1:kind=1
 .subst h1
  apply Gq
  simp[inR]
  grind
 .by_cases h2:kind=2
  .subst h2
   apply Gq
   simp[inR]
   grind
  .by_cases h3:kind=3
   .subst h3
    apply Gq
    simp[inR]
    grind
   .have e1:(kind==1)=false:=by simpa using h1
    have e2:(kind==2)=false:=by simpa using h2
    have e3:(kind==3)=false:=by simpa using h3
    rw[e1,e2,e3]
    cases inR kind 4 8 with
    |false=>simp
    |true=>
     cases hb:Ez kind (body.length:Int)with
     |false=>simp
     |true=>
      apply Gq
      simp[inR]
      grind
def Bk (f:A0):List YB:=
 bif !A8 f then []else
 bif f.1==1 then(IntKind.u8.wrap f.1,())::(IntKind.u8.wrap f.2.1,())::(f.2.2.1++List.replicate 20 ((0:Int),()))
 else bif f.1==2 then(IntKind.u8.wrap f.1,())::(f.2.2.1++(f.2.2.2.1++(D5 f.2.2.2.2.1 4 4++f.2.2.2.2.2.1)))
 else bif f.1==3 then(IntKind.u8.wrap f.1,())::(IntKind.u8.wrap f.2.1,())::(f.2.2.1++(f.2.2.2.1++(D5 f.2.2.2.2.1 4 4++(f.2.2.2.2.2.1++f.2.2.2.2.2.2.1))))
 else(IntKind.u8.wrap f.1,())::(f.2.2.2.1++(D5 f.2.2.2.2.2.2.2.1 4 4++(D5 f.2.2.2.2.2.2.2.2.1 6 6++(f.2.2.2.2.2.2.2.2.2.2.1++f.2.2.2.2.2.2.2.2.2.1))))
theorem Ach (b:List YB) (hl:b.length<=1073741824):Bb Cr (b,(0:Int),())=some (b++List.replicate 20 ((0:Int),()),()):=by
 have hr:=I2 (B:=Cr) 20 (fun i=>(b++List.replicate i ((0:Int),()),(i:Int),())) (b++List.replicate 20 ((0:Int),()),())
  (fun i hi=>by
   unfold Cr
   simp only[Ao,A5,Ah]
   rw[Aj zq0,Bu,Aj zq2,An,w64 zq0,List.append_assoc,<-List.replicate_succ']
   rfl)
  (by unfold Cr;simp only[Ao,Ah,A5];rfl)
 simpa using hr
theorem W9 (f:A0) (h:Ce f<=536870912):C6 f=some (Bk f,()):=by
 obtain⟨kind,id,cn,sn,tick,cookie,proof,epoch,seq,body,tag,_⟩:=f
 simp only[Ce]at h
 unfold C6 Im Bk
 simp only[Ao,Aw,Ah,A5,Zt,Ap]
 cases A8 (kind,id,cn,sn,tick,cookie,proof,epoch,seq,body,tag,PUnit.unit)with
 |false=>rfl
 |true=>
  simp only[Bool.not_true,Be,cond_false]
  cases kind==1 with
  |true=>
   simp only[Bu,cond_true]
   rw[Aj (by simp),An,Aj zq2,An,Ach _ zq2]
   simp[ob]
  |false=>
   cases kind==2 with
   |true=>
    simp only[Bu,Be,cond_true,cond_false]
    rw[Aj zq2,An,Aj zq2,An,Rk _ _ zq2,Ap,Aj zq1,An]
    simp
   |false=>
    cases kind==3 with
    |true=>
     simp only[Bu,Be,cond_true,cond_false]
     rw[Aj (by simp),An,Aj zq2,An,Aj zq2,An,Rk _ _ zq2,Ap,Aj zq1,An,Aj zq1,An]
     simp
    |false=>
     simp only[Be,cond_false]
     rw[Aj zq2,An,Rk _ _ zq2,Ap,Acf _ _ zq1,Ap,Aj zq1,An,Aj zq1,An]
     simp
theorem Xa (f:A0) (h:Ce f<=536870912):Bf f=some (Bk f,()):=by
 obtain⟨kind,id,cn,sn,tick,cookie,proof,epoch,seq,body,tag,_⟩:=f
 simp only[Ce]at h
 unfold Bf Is Bk
 simp only[Ao,Aw,Ah,A5,Si,Ap]
 cases A8 (kind,id,cn,sn,tick,cookie,proof,epoch,seq,body,tag,PUnit.unit)with
 |false=>rfl
 |true=>
  simp only[Bool.not_true,Be,cond_false]
  cases kind==1 with
  |true=>
   simp only[Bu,cond_true]
   rw[Lk _ (by simp[cat];omega) (by simp)]
   simp[ob,cat]
  |false=>
   cases kind==2 with
   |true=>
    simp only[Bu,Be,cond_true,cond_false]
    rw[Rl _ _ (by simp),Ap,Lk _ (by simp[cat,F0];omega) (by simp)]
    simp[ob,cat]
   |false=>
    cases kind==3 with
    |true=>
     simp only[Bu,Be,cond_true,cond_false]
     rw[Rl _ _ (by simp),Ap,Lk _ (by simp[cat,F0];omega) (by simp)]
     simp[ob,cat]
    |false=>
     simp only[Be,cond_false]
     rw[Rl _ _ (by simp),Ap,Acg _ _ (by simp),Ap,Lk _ (by simp[cat,F0];omega) (by simp)]
     simp[ob,cat]
def Ei (l:List YB):Int:=l.foldl (fun n x=>IntKind.i64.wrap (IntKind.i64.wrap (n*256)+IntKind.i64.wrap x.1)) 0
theorem Ou (l:List YB) (x:YB):Ei (l++[x])=IntKind.i64.wrap (IntKind.i64.wrap (Ei l*256)+IntKind.i64.wrap x.1):=by simp[Ei]
def Gr (b:List YB) (p k:Int):YI×YI×(Bool×Unit):=
 if 1<=k/\k<=6/\0<=p/\p+k<=b.length then((Ei ((b.drop p.toNat).take k.toNat),()),(p+k,()),(true,()))else((0,()),(0,()),(false,()))
theorem Qp (b:List YB) (p k:Int) (hl:b.length<=4294967296):He (b,()) (p,()) (k,())=some (Gr b p k):=by
 unfold He O7 Gr
 simp only[Ao,Aw,Ah]
 by_cases h1:k<1
 .rw[Aj h1,Bu,if_neg zq0]
 rw[De h1,Be]
 by_cases h2:k>6
 .rw[Aj h2,Bu,if_neg zq0]
 rw[De h2,Be]
 by_cases h3:p<0
 .rw[Aj h3,Bu,if_neg zq0]
 rw[De h3,Be,w64 (n:=(b.length:Int)-k) zq0]
 by_cases h4:p>(b.length:Int)-k
 .rw[Aj h4,Bu,if_neg zq0]
 rw[De h4,Be,if_pos zq0]
 have hr:=I2 (B:=Fd) k.toNat (fun i=>(b,p,k,Ei ((b.drop p.toNat).take i),(i:Int),())) (p,k,Ei ((b.drop p.toNat).take k.toNat),())
  (fun i hi=>by
   have hlt:p.toNat+i<b.length:=by omega
   have hx:=List.getElem?_eq_getElem hlt
   have hx2:(b.drop p.toNat)[i]? =some b[p.toNat+i]:=by rw[List.getElem?_drop];exact hx
   unfold Fd
   simp only[Ao,Aw,Ah]
   rw[Aj zq0,Bu,w64 (n:=p+(i:Int)) zq0,show p+(i:Int)=((p.toNat+i:Nat):Int) by omega,Gp hx,Ap,w64 (n:=(i:Int)+1) zq0,<-Jf hx2,Ou]
   rfl)
  (by
   unfold Fd
   simp only[Ao,Aw,Ah]
   rw[De zq0,Be])
 rw[show Bb Fd (b,p,k,(0:Int),(0:Int),())=_ from hr,Ap]
 simp only
 rw[w64 zq0]
theorem Ad0 (b:List YB) (p n:Int) (hl:b.length<=4294967296):Rj (b,()) (p,()) (n,())=some (if 0<=p/\0<=n/\p+n<=b.length then(((b.drop p.toNat).take n.toNat,()),(true,()))else(([],()),(false,()))):=by
 unfold Rj Rd
 simp only[Ao,A5,Ah]
 by_cases h1:p<0
 .rw[Aj h1,Bu,if_neg zq0]
 rw[De h1,Be]
 by_cases h2:n<0
 .rw[Aj h2,Bu,if_neg zq0]
 rw[De h2,Be]
 by_cases h3:p>(b.length:Int)
 .rw[Aj h3,Bu,if_neg zq0]
 rw[De h3,Be,w64 (n:=(b.length:Int)-p) zq0]
 by_cases h4:n>(b.length:Int)-p
 .rw[Aj h4,Bu,if_neg zq0]
 rw[De h4,Be,if_pos zq0,w64 (n:=p+n) zq0,Aj zq0,Aj zq0,Aj zq0,Aj zq2]
 simp only[An,List.nil_append]
 rw[show(p+n).toNat=p.toNat+n.toNat by omega,List.drop_take,Nat.add_sub_cancel_left]
theorem Ac9 (b:List YB) (p k:Int) (hl:b.length<=4294967296):Pa (b,()) (p,()) (k,())=some (Gr b p k):=by
 unfold Pa O9 Gr
 simp only[Ao,Aw,Ah]
 by_cases h1:k<1
 .rw[Aj h1,Bu,if_neg zq0]
 rw[De h1,Be]
 by_cases h2:k>6
 .rw[Aj h2,Bu,if_neg zq0]
 rw[De h2,Be,Ad0 _ _ _ hl,Ap]
 by_cases h3:0<=p/\0<=k/\p+k<=b.length
 .rw[if_pos h3,if_pos zq0]
  simp only[Bool.not_true,Be]
  have hlen:((b.drop p.toNat).take k.toNat).length=k.toNat:=by simp;omega
  have hr:=I2 (B:=Fe) k.toNat (fun i=>(p,k,Ei (((b.drop p.toNat).take k.toNat).take i),(b.drop p.toNat).take k.toNat,(((b.drop p.toNat).take k.toNat).length:Int),(i:Int),())) (p,k,Ei ((b.drop p.toNat).take k.toNat),())
   (fun i hi=>by
    have hx:=List.getElem?_eq_getElem (show i<((b.drop p.toNat).take k.toNat).length by omega)
    unfold Fe
    simp only[Ao,Aw,Ah]
    rw[Aj zq0,Bu,Gp hx,Ap,w64 (n:=(i:Int)+1) zq0,<-Jf hx,Ou,Int.mul_comm 256]
    rfl)
   (by
    unfold Fe
    simp only[Ao,Aw,Ah]
    rw[De zq0,Be,List.take_take,Nat.min_self])
  rw[show Bb Fe (p,k,(0:Int),(b.drop p.toNat).take k.toNat,(((b.drop p.toNat).take k.toNat).length:Int),(0:Int),())=_ from hr,Ap]
  simp only
  rw[w64 zq0]
 .rw[if_neg h3,if_neg zq0]
  rfl
def wfB (l:List YB):Prop:=∀(i:Nat) (x:YB),l[i]? =some x->0<=x.1/\x.1<=255
theorem Ada {e:Nat} {l:List YB} (h:wfD (.sl e [.int .u8]) l):wfB l:=fun i x hx=>by
 simp only[wfD]at h
 have h1:=h.2 i x hx
 simp only[Ds,wfD]at h1
 have h2:=h1.1
 simp[Lit.wf,IntKind.min,IntKind.max,IntKind.signed,IntKind.bits]at h2
 omega
end
end Go.Proofs.YthccfdmiejmbaaaDoor

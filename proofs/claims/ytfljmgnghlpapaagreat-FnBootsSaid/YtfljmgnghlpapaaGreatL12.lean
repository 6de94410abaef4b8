/-
  That the program and the reference answer alike, in plain terms, and that the laws answer true.
-/
import Derived.Test.YtfljmgnghlpapaaGreatL10
namespace Go.Proofs.YtfljmgnghlpapaaGreat
open Go.RowKit
set_option linter.unusedVariables false
set_option linter.unusedSimpArgs false
set_option maxRecDepth 100000
set_option maxHeartbeats 4000000
noncomputable section
theorem Ayd (d:Cj) (h:E6 d≤4294967296):Ac2 d=some d:=by
 simp only[E6]at h
 unfold Ac2 Ab9
 simp only[Al,Ab,List.length_nil,Nat.zero_add,List.nil_append]
 rw[An h];rfl
theorem A2g (d:Cj) (h:E6 d≤4294967296):Ahd d=some d:=Ayd d h
theorem Bde (d:YEp) (h:En d≤4294967296):Qf d=some d:=by
 simp only[En]at h
 unfold Qf Af6
 simp (disch:=first|omega|(dsimp only;omega)|(simp only[E6];omega)) only[Ae,Ab,Dv,Ayd,Ai]
theorem A2h (d:YEp) (h:En d≤4294967296):Vl d=some d:=by
 simp only[En]at h
 unfold Vl Aft
 simp (disch:=first|omega|(dsimp only;omega)|(simp only[E6];omega)) only[Ae,Al,Ab,A2g,Ai,List.length_nil,Nat.zero_add,List.nil_append,An,A8]
theorem Bfe (d:YEp) (b:Bool×Unit) (h:En d≤4294967296):Ame d b=some d:=by
 have h':=h
 simp only[En]at h
 unfold Ame Aky
 simp (disch:=first|omega|(dsimp only;omega)) only[Ac,Ae,Al,Ab,A2h,Ai,List.length_nil,Nat.zero_add,List.nil_append,An,A8]
 cases b.1<;>rfl
theorem At8 (d:Bt) (h:Bs d≤4294967296):Lz d=some d:=by
 simp only[Bs]at h
 unfold Lz Wp
 simp (disch:=first|omega|(dsimp only;omega)|(simp only[En];omega)) only[Ae,Al,Ab,Dv,Bde,Ai]
theorem Ba5 (d:Bt) (h:Bs d≤4294967296):Acz d=some d:=by
 simp only[Bs]at h
 unfold Acz Abw
 simp (disch:=first|omega|(dsimp only;omega)|(simp only[En];omega)) only[Ae,Al,Ab,A2h,Bfe,Ai,List.length_nil,Nat.zero_add,List.nil_append,An,A8]
theorem S9 (d:Bb) (h:A1 d≤4294967296):Dk d=some d:=by
 obtain⟨a,b,l,⟨⟩⟩:=d
 simp only[A1]at h
 have hl:=B8 (B:=Gm) l.length (fun i=>(l,(l.length:Int),(i:Int),(0:Int),(0:Int),([]:List Ap),a,b,l.take i,())) ((0:Int),(0:Int),([]:List Ap),a,b,l,())
  (fun i hi=>by
   have hx:=List.getElem?_eq_getElem hi
   have h2:=Fb (f:=Dm) hx
   simp only[Dm]at h2
   unfold Gm
   simp only[Ac,Ae,Ab,Al,By hi,A4,Bk hx,Ai]
   rw[Dv _ zq2,Ai,An zq1,A8,w64 zq0]
   exact congrArg (fun t=>some (Sum.inl (l,(l.length:Int),(i:Int)+1,(0:Int),(0:Int),([]:List Ap),a,b,t,()))) (Dg hx))
  (by unfold Gm;simp only[Ac,Ab,Bz,Au,List.take_length])
 unfold Dk Uj
 simp only[Ae,Ab]
 rw[show As Gm (l,(l.length:Int),(0:Int),(0:Int),(0:Int),([]:List Ap),a,b,([]:List Ap),())=_ from hl]
 rfl
theorem Aye (d:Ap) (h:Dm d≤4294967296):Sz d=some d:=by
 simp only[Dm]at h
 unfold Sz Abr
 simp only[Al,Ab,List.length_nil,Nat.zero_add,List.nil_append]
 rw[An h];rfl
theorem T0 (d:Bb) (h:A1 d≤4294967296):Dy d=some d:=by
 obtain⟨a,b,l,⟨⟩⟩:=d
 simp only[A1]at h
 have hl:=B8 (B:=H5) l.length (fun i=>((i:Int),a,b,l,(0:Int),(0:Int),([]:List Ap),a,b,l.take i,())) ((0:Int),(0:Int),([]:List Ap),a,b,l,())
  (fun i hi=>by
   have hx:=List.getElem?_eq_getElem hi
   have h2:=Fb (f:=Dm) hx
   unfold H5
   simp only[Ac,Ae,Ab,Al,By hi,A4,Bk hx,Ai]
   rw[Aye _ zq0,Ai,An zq1,A8,w64 zq0]
   exact congrArg (fun t=>some (Sum.inl ((i:Int)+1,a,b,l,(0:Int),(0:Int),([]:List Ap),a,b,t,()))) (Dg hx))
  (by unfold H5;simp only[Ac,Ab,Bz,Au,List.take_length])
 unfold Dy Abs
 simp only[Ae,Ab]
 rw[show As H5 ((0:Int),a,b,l,(0:Int),(0:Int),([]:List Ap),a,b,([]:List Ap),())=_ from hl]
 rfl
theorem M4 (d:Ad) (h:Aw d≤4294967296):Gd d=some d:=by
 simp only[Aw]at h
 unfold Gd Wq
 simp (disch:=first|omega|(dsimp only;omega)|(simp only[Bs];omega)|(simp only[A1];omega)) only[Ae,Al,Ab,Dv,At8,S9,Ai]
theorem Amu (d:Ad) (h:Aw d≤4294967296):Nx d=some d:=by
 simp only[Aw]at h
 unfold Nx Abx
 simp (disch:=first|omega|(dsimp only;omega)|(simp only[Bs];omega)|(simp only[A1];omega)) only[Ae,Al,Ab,Ba5,T0,Ai,List.length_nil,Nat.zero_add,List.nil_append,An,A8]
theorem T1 (d:Bp) (h:Bg d≤4294967296):He d=some d:=by
 obtain⟨c,l,⟨⟩⟩:=d
 simp only[Bg]at h
 have hl:=B8 (B:=H7) l.length (fun i=>(l,(l.length:Int),(i:Int),(0:Int),([]:List Ad),c,l.take i,())) ((0:Int),([]:List Ad),c,l,())
  (fun i hi=>by
   have hx:=List.getElem?_eq_getElem hi
   have h2:=Fb (f:=Aw) hx
   unfold H7
   simp only[Ac,Ae,Ab,Al,By hi,A4,Bk hx,Ai]
   rw[M4 _ zq0,Ai,An zq1,A8,w64 zq0]
   exact congrArg (fun t=>some (Sum.inl (l,(l.length:Int),(i:Int)+1,(0:Int),([]:List Ad),c,t,()))) (Dg hx))
  (by unfold H7;simp only[Ac,Ab,Bz,Au,List.take_length])
 unfold He Aca
 simp only[Ae,Ab]
 rw[show As H7 (l,(l.length:Int),(0:Int),(0:Int),([]:List Ad),c,([]:List Ad),())=_ from hl]
 rfl
theorem Ayf (d:Bp) (h:Bg d≤4294967296):S1 d=some d:=by
 obtain⟨c,l,⟨⟩⟩:=d
 simp only[Bg]at h
 have hl:=B8 (B:=H6) l.length (fun i=>((i:Int),c,l,(0:Int),([]:List Ad),c,l.take i,())) ((0:Int),([]:List Ad),c,l,())
  (fun i hi=>by
   have hx:=List.getElem?_eq_getElem hi
   have h2:=Fb (f:=Aw) hx
   unfold H6
   simp only[Ac,Ae,Ab,Al,By hi,A4,Bk hx,Ai]
   rw[Amu _ zq0,Ai,An zq1,A8,w64 zq0]
   exact congrArg (fun t=>some (Sum.inl ((i:Int)+1,c,l,(0:Int),([]:List Ad),c,t,()))) (Dg hx))
  (by unfold H6;simp only[Ac,Ab,Bz,Au,List.take_length])
 unfold S1 Abz
 simp only[Ae,Ab]
 rw[show As H6 ((0:Int),c,l,(0:Int),([]:List Ad),c,([]:List Ad),())=_ from hl]
 rfl
def Qt (b:YBs):Bool:=inR (b.1.length:Int) 1 32
theorem Bff (b:YBs):Amj b=some (Qt b,()):=by
 unfold Amj Alk
 simp only[Ae,Ab,Bw,Ai];rfl
theorem An1 (b:YBs):Lw b=some (Qt b,()):=by
 unfold Lw Akh
 simp only[Ae,Ab,Df,Ai];rfl
theorem Av9 (b:YBs):Aaj b=some ((b.1.length:Int)==32,()):=rfl
theorem A6o (b:YBs):Amb b=some ((b.1.length:Int)==32,()):=rfl
def Hx (d:Eh):Bool:=inR (d.1.length:Int) 1 32 && inR d.2.1 0 10000
theorem A2i (d:Eh):Vm d=some (Hx d,()):=by
 unfold Vm Aga
 simp only[Ac,Ae,Ab,Bw,Ai,L7];rfl
theorem A2j (d:Eh):Vh d=some (Hx d,()):=by
 unfold Vh Ae3
 simp only[Ac,Ae,Ab,Df,Ai,L7];rfl
def Ck (s:Az):Bool:=
 inR (s.1.length:Int) 1 9 && (((s.2.1.length:Int)==32) && (Hx (s.2.2.1,s.2.2.2.1,()) && (Ev (s.2.2.2.2.1,s.2.2.2.2.2.1,()) && (Iv s.2.2.2.2.2.2.1 &&
  (C6 (fun _ x=> !Qt x) s.1 && C6 (fun _ (x:Ad)=>decide (x.1>(s.1.length:Int))) s.2.2.2.2.2.1)))))
theorem E4 (s:Az) (h:A3 s≤4294967296):Eb s=some (Ck s,()):=by
 obtain⟨ps,jar,sd,n,cap,ss,cr,⟨⟩⟩:=s
 simp only[A3]at h
 have hl1:=D4 (B:=Hk) ps (fun i=>(ps,(ps.length:Int),(i:Int),ps,jar,sd,n,cap,ss,cr,())) (fun _ x=> !Qt x) (false,()) (ps,jar,sd,n,cap,ss,cr,())
  (fun i x hi hx=>by
   unfold Hk
   simp (disch:=omega) only[Ac,Ae,Ab,By hi,A4,Bk hx,Ai,w64,Bff]
   rfl)
  (by unfold Hk;simp only[Ac,Ab,Bz,Au])
 have hl2:=D4 (B:=Gn) ss (fun i=>(ss,(ss.length:Int),(i:Int),ps,jar,sd,n,cap,ss,cr,())) (fun _ x=>decide (x.1>(ps.length:Int))) (false,()) ()
  (fun i x hi hx=>by
   unfold Gn
   simp (disch:=omega) only[Ac,Ae,Ab,By hi,A4,Bk hx,Ai,w64]
   rfl)
  (by unfold Gn;simp only[Ac,Ab,Bz,Au])
 unfold Eb Pz Ck
 simp only[Ac,Ae,Ab,Dn,Bw,Ai,Av9,A2i]
 rw[Vz _ zq6,A5h _ zq0,show((0:Int))=((0:Nat):Int)from rfl,hl1]
 simp only[Ai]
 cases inR (ps.length:Int) 1 9 with
 |false=>rfl
 |true=>
  cases ((jar.length:Int)==32)with
  |false=>rfl
  |true=>
   cases Hx (sd,n,())with
   |false=>rfl
   |true=>
    cases Ev (cap,ss,())with
    |false=>rfl
    |true=>
     cases Iv cr with
     |false=>rfl
     |true=>
      cases C6 (fun _ x=> !Qt x) ps with
      |false=>rfl
      |true=>
       simp only[Bool.not_true,Au,cond_true,sm]
       rw[hl2]
       cases C6 (fun _ (x:Ad)=>decide (x.1>(ps.length:Int))) ss<;>rfl
theorem Ah4 (s:Az) (h:A3 s≤4294967296):Lx s=some (Ck s,()):=by
 obtain⟨ps,jar,sd,n,cap,ss,cr,⟨⟩⟩:=s
 simp only[A3]at h
 have hl1:=D4 (B:=Hg) ps (fun i=>((i:Int),ps,jar,sd,n,cap,ss,cr,())) (fun _ x=> !Qt x) (false,()) (ps,jar,sd,n,cap,ss,cr,())
  (fun i x hi hx=>by
   unfold Hg
   simp (disch:=omega) only[Ac,Ae,Ab,By hi,A4,Bk hx,Ai,w64,An1]
   rfl)
  (by unfold Hg;simp only[Ac,Ab,Bz,Au])
 have hl2:=D4 (B:=Hh) ss (fun i=>((i:Int),ps,jar,sd,n,cap,ss,cr,())) (fun _ x=>decide (x.1>(ps.length:Int))) (false,()) ()
  (fun i x hi hx=>by
   unfold Hh
   simp (disch:=omega) only[Ac,Ae,Ab,By hi,A4,Bk hx,Ai,w64]
   rfl)
  (by unfold Hh;simp only[Ac,Ab,Bz,Au])
 unfold Lx Pr Ck
 simp only[Ac,Ae,Ab,Dn,Df,Ai,A6o,A2j]
 rw[A6k _ zq6,S8 _ zq0,show((0:Int))=((0:Nat):Int)from rfl,hl1]
 simp only[Ai]
 cases inR (ps.length:Int) 1 9 with
 |false=>rfl
 |true=>
  cases ((jar.length:Int)==32)with
  |false=>rfl
  |true=>
   cases Hx (sd,n,())with
   |false=>rfl
   |true=>
    cases Ev (cap,ss,())with
    |false=>rfl
    |true=>
     cases Iv cr with
     |false=>rfl
     |true=>
      cases C6 (fun _ x=> !Qt x) ps with
      |false=>rfl
      |true=>
       simp only[Bool.not_true,Au,cond_true,sm]
       rw[hl2]
       cases C6 (fun _ (x:Ad)=>decide (x.1>(ps.length:Int))) ss<;>rfl
end
end Go.Proofs.YtfljmgnghlpapaaGreat

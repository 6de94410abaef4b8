/-
  That the program and the reference answer alike, in plain terms, and that the laws answer true.
-/
import Derived.Test.YtfljmgnghlpapaaGreatL15
namespace Go.Proofs.YtfljmgnghlpapaaGreat
open Go.RowKit
set_option linter.unusedVariables false
set_option linter.unusedSimpArgs false
set_option maxRecDepth 100000
set_option maxHeartbeats 4000000
noncomputable section
theorem A5n (s:Ad):Bs (Fx s)≤Aw s:=by simp only[Bs,Fx,Aw];omega
theorem Az7 (l:List Ak) (h:l.length≤4294967296):Qg (l,())=some (l,()):=by
 unfold Qg Pv
 simp only[Al,Ab,List.length_nil,Nat.zero_add,List.nil_append]
 rw[An h];rfl
theorem Hy (s:Az) (h:A3 s≤4294967296):Ho s=some s:=by
 have h':=h
 simp only[A3]at h
 unfold Ho Rk
 simp (disch:=first|omega|(dsimp only;omega)|(simp only[Bg];omega)) only[Ae,Ab,A8l,Dv,T1,Az7,Ai]
theorem Ayi (s:Az) (h:A3 s≤4294967296):S4 s=some s:=by
 obtain⟨l,j,sd,n,c,ss,cr,⟨⟩⟩:=s
 simp only[A3]at h
 have hl:=B8 (B:=Ib) l.length (fun i=>((i:Int),l,j,sd,n,c,ss,cr,[],[],[],(0:Int),(0:Int),[],[],l.take i,j,sd,n,c,ss,cr,())) ([],[],[],(0:Int),(0:Int),[],[],l,j,sd,n,c,ss,cr,())
  (fun i hi=>by
   have hx:=List.getElem?_eq_getElem hi
   have h2:=Fb (f:=Ik) hx
   simp only[Ik]at h2
   unfold Ib
   simp only[Ac,Ae,Ab,Al,By hi,A4,Bk hx,Ai,List.length_nil,Nat.zero_add,List.nil_append]
   rw[An zq0,A8,An zq1,A8,w64 zq0]
   exact congrArg (fun t=>some (Sum.inl ((i:Int)+1,l,j,sd,n,c,ss,cr,[],[],[],(0:Int),(0:Int),[],[],t,j,sd,n,c,ss,cr,()))) (Dg hx))
  (by unfold Ib;simp only[Ac,Ab,Bz,Au,List.take_length])
 unfold S4 Ach
 simp only[Ae,Al,Ab,List.length_nil,Nat.zero_add,List.nil_append]
 rw[An zq0,A8,Ayh _ zq2,Ayf _ zq6]
 simp only[Ai]
 rw[An zq0,A8]
 rw[show As Ib ((0:Int),l,j,sd,n,c,ss,cr,[],[],[],(0:Int),(0:Int),[],[],[],j,sd,n,c,ss,cr,())=_ from hl]
 rfl
theorem Bfh (s:Az) (h:A3 s≤1073741824): ∃r ns,Xu s=some (r,(ns,()))∧Aq9 s=some (r,(ns,()))∧A3 r≤A3 s+64∧ns.length+Co Tu ns≤99:=by
 have h':=h
 simp only[A3]at h'
 obtain⟨t,t1,t2,t3⟩:=Amm (s.2.2.2.2.1,())
 have hr:=Bdk (s.2.2.1,s.2.2.2.1,())
 have hr1:=A2p (s.2.2.1,s.2.2.2.1,())
 have hj:=Ah8 (Ge (s.2.2.1,s.2.2.2.1,())).2
 unfold Xu Agv Aq9 Aqt Xt P4 Ajr Un
 simp only[Ac,Ae,Ab,Al,List.length_nil,Nat.zero_add,List.nil_append]
 rw[Hy s zq0,Ayi s zq0,E4 s zq0,Ah4 s zq0,Ba9 _ zq2,Bba _ zq2,t1,t2]
 simp only[Ai,A2q,Arf]
 rw[Dv _ zq2,Dv _ zq2,An zq0,An zq0]
 simp only[Ai,A8]
 cases Ck s with
 |false=>exact⟨s,[],rfl,rfl,by omega,by simp[Co]⟩
 |true=>
  simp only[Bool.not_true,Au]
  cases (s.2.2.2.1==(10000:Int))with
  |true=>exact⟨s,[],rfl,rfl,by omega,by simp[Co]⟩
  |false=>
   refine⟨_,_,rfl,rfl,?_,?_⟩
   ·simp only[Bg]at t3
    simp only[A3,hr1,List.length_nil]at*;omega
   ·simp only[Co,Tu,List.length_cons,List.length_nil];omega
end
end Go.Proofs.YtfljmgnghlpapaaGreat

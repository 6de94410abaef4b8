/-
  That the program and the reference answer alike, in plain terms, and that the laws answer true.
-/
import Derived.Test.YtmhhajdeafijmaaL1
namespace Go.Proofs.Ytmhhajdeafijmaa
open Go.RowKit
set_option linter.unusedVariables false
set_option linter.unusedSimpArgs false
set_option maxHeartbeats 4000000
noncomputable section
theorem Akw (b c:Bool):br b (some (c,())) (some (false,()))=some (b && c,()):=by cases b<;>rfl
theorem Alo (b c:Bool):br b (some (true,())) (some (c,()))=some (b || c,()):=by cases b<;>rfl
theorem Aaz (b c d:Bool):br b (some (c,())) (some (d,()))=some (bif b then c else d,()):=by cases b<;>rfl
theorem Zs (a:YBs):Dq a=some ((a.1.length:Int)==12,()):=rfl
theorem Uj (a:YI):H7 a=some (a.1==0 || a.1==1,()):=by
 unfold H7 On
 simp only[Ad,Ac,Alo]
theorem Xl (n:Int):(n==0 || n==1)=inR n 0 1:=by
 apply Gv
 simp[inR]
 omega
def Cu (l:List YI):Bool:=Pp (fun _ e=> !inR e.1 0 4294967295) l
theorem V0 (l:List YI) (n:Int) (hl:l.length≤4294967296):Ia (l,()) (n,())=some (Cu l && ((l.length:Int)==n),()):=by
 have h:=Zt (B:=El) l (fun i=>(l,n,l,(l.length:Int),(i:Int),())) (fun _ e=> !inR e.1 0 4294967295) (false,()) (l,n,())
  (fun i x hi hx=>by
   unfold El
   simp (disch:=omega) only[Ad,Af,Ac,Iq hi,Ay,B8 hx,Ae,Ej,w64]
   rfl)
  (by unfold El;simp only[Ad,Af,Ac,Le,Am])
 unfold Ia Kr
 simp only[Af,V2,Ac]
 rw[show((0:Int))=((0:Nat):Int)from rfl,h]
 unfold Cu
 cases Pp (fun _ (e:YI)=> !inR e.1 0 4294967295) l<;>rfl
theorem Ep {n lo hi:Int}:inR n lo hi=true↔lo≤n∧n≤hi:=by simp[inR]
theorem Ahc (l:List YB):Ir l []=((l.length:Int)==0):=by
 apply Gv
 unfold Ir I6
 cases l<;>simp
 omega
end
end Go.Proofs.Ytmhhajdeafijmaa

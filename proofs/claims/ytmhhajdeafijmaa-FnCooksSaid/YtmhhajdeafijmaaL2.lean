/-
  That the program and the reference answer alike, in plain terms, and that the laws answer true.
-/
import Derived.Test.YtmhhajdeafijmaaL1
namespace Go.Proofs.Ytmhhajdeafijmaa
open Go.RowKit
set_option linter.unusedVariables false
set_option linter.unusedSimpArgs false
set_option maxHeartbeats 4000000
noncomputable section
theorem Aj4 (b c d:Bool):br b (some (c,())) (some (d,()))=some (bif b then c else d,()):=by cases b<;>rfl
def Cw (l:List YI):Bool:=Pr (fun _ e=> !inR e.1 0 4294967295) l
theorem V4 (l:List YI) (n:Int) (hl:l.length≤4294967296):Im (l,()) (n,())=some (Cw l && ((l.length:Int)==n),()):=by
 have h:=Zu (B:=Ev) l (fun i=>(l,n,l,(l.length:Int),(i:Int),())) (fun _ e=> !inR e.1 0 4294967295) (false,()) (l,n,())
  (fun i x hi hx=>by
   unfold Ev
   simp (disch:=omega) only[Ad,Ae,Ac,Hi hi,Ap,Bb hx,Ag,Hy,w64]
   rfl)
  (by unfold Ev;simp only[Ad,Ae,Ac,Gp,Aj])
 unfold Im K0
 simp only[Ae,N6,Ac]
 rw[show((0:Int))=((0:Nat):Int)from rfl,h]
 unfold Cw
 cases Pr (fun _ (e:YI)=> !inR e.1 0 4294967295) l<;>rfl
theorem Kq {n lo hi:Int}:inR n lo hi=true↔lo≤n∧n≤hi:=by simp[inR]
end
end Go.Proofs.Ytmhhajdeafijmaa

/-
  That the program and the reference answer alike, in plain terms, and that the laws answer true.
-/
import Derived.Test.YtggdikabbngbaaaGreatL16
namespace Go.Proofs.YtggdikabbngbaaaGreat
open Go.RowKit
set_option linter.unusedVariables false
set_option linter.unusedSimpArgs false
set_option maxRecDepth 100000
set_option maxHeartbeats 4000000
noncomputable section
def T8 (k b : List YB) : Af := ((15 : Int), (0 : Int), (0 : Int), [], [], (0 : Int), (0 : Int), b, k, (0 : Int), (0 : Int), (0 : Int), ())
theorem Bi6 (k b : List YB) (h1 : k.length ≤ 4294967296) (h2 : b.length ≤ 4294967296) : Ala (k, ()) (b, ()) = some (T8 k b) := by
 unfold Ala Av3 T8
 simp only [Ak, Ae]
 rw [Cz _ h1, Al, Cz _ h2, Al]
theorem Bi7 (k b : List YB) (h1 : k.length ≤ 4294967296) (h2 : b.length ≤ 4294967296) : Akh (k, ()) (b, ()) = some (T8 k b) := by
 unfold Akh Avw T8
 simp only [Am, Ae, List.length_nil, Nat.zero_add, List.nil_append]
 rw [Ao h1, A8, Ao h2, A8]
def Aex (c : Ag) (f : Aa) : Af := T8 c.2.2.2.1 (Dv c.1 f)
theorem Bk3 (c : Ag) (f : Aa) (h1 : c.2.2.2.1.length ≤ 4294967296) (h2 : An f ≤ 536870912) : Fs c f = some (Aex c f) := by
 have ht := Ag9 c.1 f
 unfold Fs Alm Aex
 simp only [Ak, Ae]
 rw [Rn _ _ h2, Al, Bi6 _ _ h1 (by omega), Al]
theorem Bi8 (c : Ag) (f : Aa) (h1 : c.2.2.2.1.length ≤ 4294967296) (h2 : An f ≤ 536870912) : Es c f = some (Aex c f) := by
 have ht := Ag9 c.1 f
 unfold Es Afw Aex
 simp only [Ak, Ae]
 rw [Ro _ _ h2, Al, Bi7 _ _ h1 (by omega), Al]
end
end Go.Proofs.YtggdikabbngbaaaGreat

/-
  That the program and the reference answer alike, in plain terms, and that the laws answer true.
-/
import Derived.Test.YtggdikabbngbaaaGreatL16
namespace Go.Proofs.YtggdikabbngbaaaGreat
open Go.RowKit
set_option linter.unusedVariables false
set_option linter.unusedSimpArgs false
set_option maxRecDepth 100000
set_option maxHeartbeats 4000000
noncomputable section
def Ll (k b : List YB) : A5 := ((15 : Int), (0 : Int), (0 : Int), [], [], (0 : Int), (0 : Int), b, k, (0 : Int), (0 : Int), (0 : Int), ())
theorem Bo8 (k b : List YB) (h1 : k.length ≤ 4294967296) (h2 : b.length ≤ 4294967296) : Av1 (k, ()) (b, ()) = some (Ll k b) := by
 unfold Av1 Av0 Ll
 simp only [Ag, Ab]
 rw [Dn _ h1, Ah, Dn _ h2, Ah]
theorem Bo9 (k b : List YB) (h1 : k.length ≤ 4294967296) (h2 : b.length ≤ 4294967296) : Avr (k, ()) (b, ()) = some (Ll k b) := by
 unfold Avr Avq Ll
 simp only [Ai, Ab, List.length_nil, Nat.zero_add, List.nil_append]
 rw [Ao h1, A8, Ao h2, A8]
def Hb (c : Ak) (f : Av) : A5 := Ll c.2.2.2.1 (Cz c.1 f)
theorem J1 (c : Ak) (f : Av) (h1 : c.2.2.2.1.length ≤ 4294967296) (h2 : A1 f ≤ 536870912) : G6 c f = some (Hb c f) := by
 have ht := Au4 c.1 f
 unfold G6 Aj0 Hb
 simp only [Ag, Ab]
 rw [Tk _ _ h2, Ah, Bo8 _ _ h1 (by omega), Ah]
theorem Hh (c : Ak) (f : Av) (h1 : c.2.2.2.1.length ≤ 4294967296) (h2 : A1 f ≤ 536870912) : Ey c f = some (Hb c f) := by
 have ht := Au4 c.1 f
 unfold Ey Aed Hb
 simp only [Ag, Ab]
 rw [Tl _ _ h2, Ah, Bo9 _ _ h1 (by omega), Ah]
end
end Go.Proofs.YtggdikabbngbaaaGreat

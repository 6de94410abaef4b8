/-
  That the program and the reference answer alike, in plain terms, and that the laws answer true.
-/
import Derived.Test.YtdlcjpjflckdlaaGreatL16
namespace Go.Proofs.YtdlcjpjflckdlaaGreat
open Go.RowKit
set_option linter.unusedVariables false
set_option linter.unusedSimpArgs false
set_option maxRecDepth 100000
set_option maxHeartbeats 4000000
noncomputable section
/-! ## Notes, timers -/
def madeN (k b : List YB) : YNote := ((15 : Int), (0 : Int), (0 : Int), [], [], (0 : Int), (0 : Int), b, k, (0 : Int), (0 : Int), (0 : Int), ())
theorem i_Made (k b : List YB) (h1 : k.length ≤ 4294967296) (h2 : b.length ≤ 4294967296) : V_i_Made (k, ()) (b, ()) = some (madeN k b) := by
  unfold V_i_Made T_i_Made madeN
  simp only [val_ob, val_leaf]
  rw [i_clone _ h1, ob_s, i_clone _ h2, ob_s]
theorem s_Made (k b : List YB) (h1 : k.length ≤ 4294967296) (h2 : b.length ≤ 4294967296) : V_s_Made (k, ()) (b, ()) = some (madeN k b) := by
  unfold V_s_Made T_s_Made madeN
  simp only [val_chk, val_leaf, List.length_nil, Nat.zero_add, List.nil_append]
  rw [dec_t h1, chk_t, dec_t h2, chk_t]
def madeC (c : YChan) (f : YFrame) : YNote := madeN c.2.2.2.1 (tagInput c.1 f)
theorem i_madeBy (c : YChan) (f : YFrame) (h1 : c.2.2.2.1.length ≤ 4294967296) (h2 : need_Frame f ≤ 536870912) : V_i_madeBy c f = some (madeC c f) := by
  have ht := tagInput_le c.1 f
  unfold V_i_madeBy T_i_madeBy madeC
  simp only [val_ob, val_leaf]
  rw [i_TagInput _ _ h2, ob_s, i_Made _ _ h1 (by omega), ob_s]
theorem s_l19Made (c : YChan) (f : YFrame) (h1 : c.2.2.2.1.length ≤ 4294967296) (h2 : need_Frame f ≤ 536870912) : V_s_l19Made c f = some (madeC c f) := by
  have ht := tagInput_le c.1 f
  unfold V_s_l19Made T_s_l19Made madeC
  simp only [val_ob, val_leaf]
  rw [s_TagInput _ _ h2, ob_s, s_Made _ _ h1 (by omega), ob_s]
theorem need_madeC (c : YChan) (f : YFrame) : need_Note (madeC c f) ≤ need_Chan c + need_Frame f + 32 := by
  have ht := tagInput_le c.1 f
  simp only [need_Note, madeC, madeN, need_Chan, List.length_nil]
  omega
end
end Go.Proofs.YtdlcjpjflckdlaaGreat

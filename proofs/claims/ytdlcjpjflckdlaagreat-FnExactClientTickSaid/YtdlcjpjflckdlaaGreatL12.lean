/-
  That the program and the reference answer alike, in plain terms, and that the laws answer true.
-/
import Derived.Test.YtdlcjpjflckdlaaGreatL11
namespace Go.Proofs.YtdlcjpjflckdlaaGreat
open Go.RowKit
set_option linter.unusedVariables false
set_option linter.unusedSimpArgs false
set_option maxRecDepth 100000
set_option maxHeartbeats 4000000
noncomputable section
/-! ## Copies are what they are copies of -/
theorem i_copyWin (d : YWin) (h : need_Win d ≤ 4294967296) : V_i_copyWin d = some d := by
  simp only [need_Win] at h
  unfold V_i_copyWin T_i_copyWin
  simp only [val_chk, val_leaf, List.length_nil, Nat.zero_add, List.nil_append]
  rw [dec_t h]; rfl
theorem s_l8Copy (d : YWin) (h : need_Win d ≤ 4294967296) : V_s_l8Copy d = some d := i_copyWin d h
theorem i_copyEp (d : YEp) (h : need_Ep d ≤ 4294967296) : V_i_copyEp d = some d := by
  simp only [need_Ep] at h
  unfold V_i_copyEp T_i_copyEp
  simp (disch := first | omega | (dsimp only; omega) | (simp only [need_Win]; omega)) only [val_ob, val_leaf, i_clone, i_copyWin, ob_s]
theorem s_l9Copy (d : YEp) (h : need_Ep d ≤ 4294967296) : V_s_l9Copy d = some d := by
  simp only [need_Ep] at h
  unfold V_s_l9Copy T_s_l9Copy
  simp (disch := first | omega | (dsimp only; omega) | (simp only [need_Win]; omega)) only [val_ob, val_chk, val_leaf, s_l8Copy, ob_s, List.length_nil, Nat.zero_add, List.nil_append, dec_t, chk_t]
theorem s_l14Ep (d : YEp) (b : Bool × Unit) (h : need_Ep d ≤ 4294967296) : V_s_l14Ep d b = some d := by
  have h' := h
  simp only [need_Ep] at h
  unfold V_s_l14Ep T_s_l14Ep
  simp (disch := first | omega | (dsimp only; omega)) only [val_br, val_ob, val_chk, val_leaf, s_l9Copy, ob_s, List.length_nil, Nat.zero_add, List.nil_append, dec_t, chk_t]
  cases b.1 <;> rfl
theorem i_copyChan (d : YChan) (h : need_Chan d ≤ 4294967296) : V_i_copyChan d = some d := by
  simp only [need_Chan] at h
  unfold V_i_copyChan T_i_copyChan
  simp (disch := first | omega | (dsimp only; omega) | (simp only [need_Ep]; omega)) only [val_ob, val_chk, val_leaf, i_clone, i_copyEp, ob_s]
theorem s_l14Copy (d : YChan) (h : need_Chan d ≤ 4294967296) : V_s_l14Copy d = some d := by
  simp only [need_Chan] at h
  unfold V_s_l14Copy T_s_l14Copy
  simp (disch := first | omega | (dsimp only; omega) | (simp only [need_Ep]; omega)) only [val_ob, val_chk, val_leaf, s_l9Copy, s_l14Ep, ob_s, List.length_nil, Nat.zero_add, List.nil_append, dec_t, chk_t]
def pskOk (b : YBs) : Bool := inR (b.1.length : Int) 1 32
theorem i_PskOk (b : YBs) : V_i_PskOk b = some (pskOk b, ()) := by
  unfold V_i_PskOk T_i_PskOk
  simp only [val_ob, val_leaf, i_within, ob_s]; rfl
theorem s_PskOk (b : YBs) : V_s_PskOk b = some (pskOk b, ()) := by
  unfold V_s_PskOk T_s_PskOk
  simp only [val_ob, val_leaf, s_l1In, ob_s]; rfl
end
end Go.Proofs.YtdlcjpjflckdlaaGreat

/-
  That the program and the reference answer alike, in plain terms, and that the laws answer true.
-/
import Derived.Test.YtfdfaefafbnceaaGreatL1
namespace Go.Proofs.YtfdfaefafbnceaaGreat
open Go.RowKit
set_option linter.unusedVariables false
set_option linter.unusedSimpArgs false
set_option maxHeartbeats 4000000
noncomputable section
/-! ## Answers that are true or false -/
theorem br_and (b c : Bool) : br b (some (c, ())) (some (false, ())) = some (b && c, ()) := by cases b <;> rfl
theorem br_or (b c : Bool) : br b (some (true, ())) (some (c, ())) = some (b || c, ()) := by cases b <;> rfl
theorem br_cc (b c d : Bool) : br b (some (c, ())) (some (d, ())) = some (bif b then c else d, ()) := by cases b <;> rfl
def addrOk (a : YAddr) : Bool := inR a.1 0 4294967295 && inR a.2.1 0 65535
theorem i_AddrOk (a : YAddr) : V_i_AddrOk a = some (addrOk a, ()) := by
  unfold V_i_AddrOk T_i_AddrOk addrOk
  simp only [val_br, val_ob, val_leaf, i_within, ob_s, br_and]
theorem s_AddrOk (a : YAddr) : V_s_AddrOk a = some (addrOk a, ()) := by
  unfold V_s_AddrOk T_s_AddrOk addrOk
  simp only [val_br, val_ob, val_leaf, s_l1In, ob_s, br_and]
theorem i_isNonce (a : YBs) : V_i_isNonce a = some ((a.1.length : Int) == 12, ()) := rfl
theorem i_isRole (a : YI) : V_i_isRole a = some (a.1 == 0 || a.1 == 1, ()) := by
  unfold V_i_isRole T_i_isRole
  simp only [val_br, val_leaf, br_or]
theorem role_in (n : Int) : (n == 0 || n == 1) = inR n 0 1 := by
  apply beq_of_iff
  simp [inR]
  omega
def wordsB (l : List YI) : Bool := noneB (fun _ e => !inR e.1 0 4294967295) l
theorem i_areWords (l : List YI) (n : Int) (hl : l.length ≤ 4294967296) : V_i_areWords (l, ()) (n, ()) = some (wordsB l && ((l.length : Int) == n), ()) := by
  have h := loop_none (B := B_i_areWords_2) l (fun i => (l, n, l, (l.length : Int), (i : Int), ())) (fun _ e => !inR e.1 0 4294967295) (false, ()) (l, n, ())
    (fun i x hi hx => by
      unfold B_i_areWords_2
      simp (disch := omega) only [val_br, val_ob, val_leaf, lt_dec hi, br_t, idx_at hx, ob_s, i_within, w64]
      rfl)
    (by unfold B_i_areWords_2; simp only [val_br, val_ob, val_leaf, ge_dec, br_f])
  unfold V_i_areWords T_i_areWords
  simp only [val_ob, val_sm, val_leaf]
  rw [show ((0 : Int)) = ((0 : Nat) : Int) from rfl, h]
  unfold wordsB
  cases noneB (fun _ (e : YI) => !inR e.1 0 4294967295) l <;> rfl
theorem inR_iff {n lo hi : Int} : inR n lo hi = true ↔ lo ≤ n ∧ n ≤ hi := by simp [inR]
theorem sameB_nil (l : List YB) : sameB l [] = ((l.length : Int) == 0) := by
  apply beq_of_iff
  unfold sameB bstr
  cases l <;> simp
  omega
end
end Go.Proofs.YtfdfaefafbnceaaGreat

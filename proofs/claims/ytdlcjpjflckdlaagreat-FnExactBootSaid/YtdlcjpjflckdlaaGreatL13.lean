/-
  That the program and the reference answer alike, in plain terms, and that the laws answer true.
-/
import Derived.Test.YtdlcjpjflckdlaaGreatL12
namespace Go.Proofs.YtdlcjpjflckdlaaGreat
open Go.RowKit
set_option linter.unusedVariables false
set_option linter.unusedSimpArgs false
set_option maxRecDepth 100000
set_option maxHeartbeats 4000000
noncomputable section
/-! ## A table with a session put -/
def expand32 (k l : List YB) : List YB × Bool := if l.length ≤ 100 ∧ k.length ≤ 1048576 then (hmac k (l ++ [((1 : Int), ())]), true) else ([], false)
theorem i_Expand32 (k l : List YB) : V_i_Expand (k, ()) (l, ()) ((32 : Int), ()) = some (((expand32 k l).1, ()), ((expand32 k l).2, ())) := by
  unfold V_i_Expand T_i_Expand expand32
  simp only [val_br, val_ob, val_leaf, val_chk, i_within, ob_s]
  rw [br_ff (by decide)]
  by_cases hl : l.length ≤ 100
  · rw [dec_f (by omega), br_f]
    by_cases hk : k.length ≤ 1048576
    · rw [dec_f (by omega), br_f, if_pos ⟨hl, hk⟩]
      have h32 : (hmac k (l ++ [((1 : Int), ())])).length = 32 := hmac_32 _ _ hk (by simp; omega)
      have e1 : B_i_Expand_6 (k, l, (32 : Int), [], [], (1 : Int), ()) = some (.inl (k, l, (32 : Int), hmac k (l ++ [((1 : Int), ())]), hmac k (l ++ [((1 : Int), ())]), (2 : Int), ())) := by
        unfold B_i_Expand_6
        simp only [val_br, val_ob, val_leaf, val_chk]
        rw [dec_t (by simp), br_t, i_joined _ (by simp [cat]; omega) (by simp), ob_s, show cat [([], ()), (l, ()), ([(IntKind.u8.wrap 1, ())], ())] = l ++ [((1 : Int), ())] by simp [cat]; rfl, i_Hmac, ob_s, dec_t (by dsimp only [List.length_nil]; omega), chk_t, List.nil_append]
        rfl
      have e2 : B_i_Expand_6 (k, l, (32 : Int), hmac k (l ++ [((1 : Int), ())]), hmac k (l ++ [((1 : Int), ())]), (2 : Int), ()) = some (.inr ((32 : Int), hmac k (l ++ [((1 : Int), ())]), ())) := by
        unfold B_i_Expand_6
        simp only [val_br, val_ob, val_leaf, val_chk]
        rw [dec_f (by omega), br_f]
      rw [iterO_eq, e1]
      simp only
      rw [iterO_eq, e2]
      simp only [ob_s]
      rw [dec_t (by omega), chk_t, dec_t (by omega), chk_t, show (32 : Int).toNat = 32 from rfl, show (0 : Int).toNat = 0 from rfl, List.drop_zero, List.take_of_length_le (by omega), i_clone _ (by dsimp only; omega), ob_s]
    · rw [dec_t (by omega), br_t, if_neg (fun h => hk h.2)]
  · rw [dec_t (by omega), br_t, if_neg (fun h => hl h.1)]
theorem s_Expand32 (k l : List YB) : V_s_Expand (k, ()) (l, ()) ((32 : Int), ()) = some (((expand32 k l).1, ()), ((expand32 k l).2, ())) := by
  unfold V_s_Expand T_s_Expand expand32
  simp only [val_br, val_ob, val_leaf, val_chk, s_l1In, ob_s, List.nil_append, List.length_nil, Nat.zero_add]
  rw [br_ff (by decide)]
  by_cases hl : l.length ≤ 100
  · rw [dec_f (by omega), br_f]
    by_cases hk : k.length ≤ 1048576
    · rw [dec_f (by omega), br_f, if_pos ⟨hl, hk⟩]
      have h32 : (hmac k (l ++ [((1 : Int), ())])).length = 32 := hmac_32 _ _ hk (by simp; omega)
      have e1 : B_s_Expand_6 (k, l, (32 : Int), [], [], (1 : Int), ()) = some (.inl (k, l, (32 : Int), hmac k (l ++ [((1 : Int), ())]), hmac k (l ++ [((1 : Int), ())]), (2 : Int), ())) := by
        unfold B_s_Expand_6
        simp only [val_br, val_ob, val_leaf, val_chk, List.nil_append, List.length_nil, Nat.zero_add]
        rw [dec_t (by simp), br_t, dec_t (by omega), chk_t, dec_t (by omega), chk_t, dec_t (by simp; omega), chk_t, show (IntKind.u8.wrap 1 : Int) = 1 from rfl, s_Hmac, ob_s, dec_t (by dsimp only; omega), chk_t]
        rfl
      have e2 : B_s_Expand_6 (k, l, (32 : Int), hmac k (l ++ [((1 : Int), ())]), hmac k (l ++ [((1 : Int), ())]), (2 : Int), ()) = some (.inr ((32 : Int), hmac k (l ++ [((1 : Int), ())]), ())) := by
        unfold B_s_Expand_6
        simp only [val_br, val_ob, val_leaf, val_chk]
        rw [dec_f (by omega), br_f]
      rw [iterO_eq, e1]
      simp only
      rw [iterO_eq, e2]
      simp only [ob_s]
      rw [dec_t (by omega), chk_t, dec_t (by omega), chk_t, show (32 : Int).toNat = 32 from rfl, show (0 : Int).toNat = 0 from rfl, List.drop_zero, List.take_of_length_le (by omega), dec_t (by omega), chk_t]
    · rw [dec_t (by omega), br_t, if_neg (fun h => hk h.2)]
  · rw [dec_t (by omega), br_t, if_neg (fun h => hl h.1)]
def derive (k l : List YB) : List YB := (expand32 k l).1
theorem derive_len (k l : List YB) : (derive k l).length = 32 ∨ (derive k l).length = 0 := by
  unfold derive expand32
  split
  · exact hmac_len _ _
  · right; rfl
theorem i_Derive (k : List YB) (b : ByteArray) (h : b.size ≤ 4294967296) : V_i_Derive (k, ()) (b, ()) = some (derive k (strb b), ()) := by
  unfold V_i_Derive T_i_Derive
  simp only [val_ob, val_leaf, val_chk]
  rw [dec_t h, chk_t, i_Expand32, ob_s]; rfl
theorem s_Derive (k : List YB) (b : ByteArray) (h : b.size ≤ 4294967296) : V_s_Derive (k, ()) (b, ()) = some (derive k (strb b), ()) := by
  unfold V_s_Derive T_s_Derive
  simp only [val_ob, val_leaf, val_chk]
  rw [dec_t h, chk_t, s_Expand32, ob_s]; rfl
end
end Go.Proofs.YtdlcjpjflckdlaaGreat

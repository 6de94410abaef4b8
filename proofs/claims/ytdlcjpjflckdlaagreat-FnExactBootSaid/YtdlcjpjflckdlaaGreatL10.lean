/-
  That the program and the reference answer alike, in plain terms, and that the laws answer true.
-/
import Derived.Test.YtdlcjpjflckdlaaGreatL9
namespace Go.Proofs.YtdlcjpjflckdlaaGreat
open Go.RowKit
set_option linter.unusedVariables false
set_option linter.unusedSimpArgs false
set_option maxHeartbeats 4000000
noncomputable section
/-! ## Message authentication -/
theorem sha_32 (b : List YB) (h : b.length ≤ 1048576) : (sha b).length = 32 := by
  unfold sha
  rw [if_pos h, wOut_len, (cAll_ok _ startL _ (Nat.le_refl _) (by decide)).2.1]; rfl
theorem sha_le (b : List YB) : (sha b).length ≤ 32 := by rcases sha_len b with h | h <;> omega
def keyPad (k : List YB) : List YB := k ++ List.replicate (64 - k.length) ((0 : Int), ())
def blockKey (k : List YB) : List YB := keyPad (if k.length > 64 then sha k else k)
theorem keyLoop (k : List YB) (h : k.length ≤ 64) : iterO B_i_BlockKey_6 (k, ()) = some (keyPad k, ()) := by
  have hr := loop_run (B := B_i_BlockKey_6) (64 - k.length) (fun i => (k ++ List.replicate i ((0 : Int), ()), ())) (keyPad k, ())
    (fun i hi => by
      unfold B_i_BlockKey_6
      simp only [val_br, val_chk, val_leaf]
      rw [dec_t (by simp; omega), br_t, dec_t (by simp; omega), chk_t, List.append_assoc, ← List.replicate_succ'])
    (by
      unfold B_i_BlockKey_6
      simp only [val_br, val_chk, val_leaf]
      rw [dec_f (by simp; omega), br_f]; rfl)
  simpa using hr
theorem keyPad_len (k : List YB) (h : k.length ≤ 64) : (keyPad k).length = 64 := by unfold keyPad; simp; omega
theorem blockKey_len (k : List YB) : (blockKey k).length = 64 := by
  unfold blockKey
  refine keyPad_len _ ?_
  split
  · have := sha_le k; omega
  · omega
theorem i_BlockKey (k : List YB) (h : k.length ≤ 1048576) : V_i_BlockKey (k, ()) = some (blockKey k, ()) := by
  unfold V_i_BlockKey T_i_BlockKey blockKey
  simp only [val_br, val_ob, val_leaf]
  rw [dec_f (by omega), br_f, i_clone _ (by dsimp only; omega), ob_s]
  by_cases h1 : k.length > 64
  · have := sha_le k
    rw [dec_t (by omega), br_t, i_Sha _ (by omega), ob_s, keyLoop _ (by omega), if_pos h1]; rfl
  · rw [dec_f (by omega), br_f, keyLoop _ (by omega), if_neg h1]; rfl
theorem s_BlockKey (k : List YB) (h : k.length ≤ 1048576) : V_s_BlockKey (k, ()) = some (blockKey k, ()) := by
  unfold V_s_BlockKey T_s_BlockKey blockKey
  simp only [val_br, val_ob, val_leaf, val_chk, List.nil_append, List.length_nil, Nat.zero_add]
  rw [dec_f (by omega), br_f, dec_t (by omega), chk_t, show B_s_BlockKey_6 = B_i_BlockKey_6 from rfl]
  by_cases h1 : k.length > 64
  · have := sha_le k
    rw [dec_t (by omega), br_t, s_Sha, ob_s, keyLoop _ (by omega), if_pos h1]; rfl
  · rw [dec_f (by omega), br_f, keyLoop _ (by omega), if_neg h1]; rfl
def xorB (x c : Int) : YB := (IntKind.u8.wrap ((BitVec.ofInt (IntKind.u8.bits) x ^^^ BitVec.ofInt (IntKind.u8.bits) c).toNat : Nat), ())
def masked (k : List YB) (c : Int) : List YB := k.map fun x => xorB x.1 c
theorem masked_len (k : List YB) (c : Int) : (masked k c).length = k.length := by simp [masked]
theorem masked_snoc (k : List YB) (x : YB) (c : Int) : masked (k ++ [x]) c = masked k c ++ [xorB x.1 c] := by simp [masked]
theorem i_masked (k : List YB) (c : Int) (h : k.length ≤ 1048576) : V_i_masked (k, ()) (c, ()) = some (masked k c, ()) := by
  have hr := loop_run (B := B_i_masked_3) k.length (fun i => (c, masked (k.take i) c, k, (k.length : Int), (i : Int), ())) (masked k c, ())
    (fun i hi => by
      have hx := List.getElem?_eq_getElem hi
      unfold B_i_masked_3
      simp only [val_br, val_ob, val_leaf, val_chk, lt_dec hi, br_t, idx_at hx, ob_s]
      rw [dec_t (by simp [masked_len]; omega), chk_t, w64 (by omega), ← snoc_take hx, masked_snoc]
      rfl)
    (by unfold B_i_masked_3; simp only [val_br, val_leaf, ge_dec, br_f, List.take_length])
  unfold V_i_masked T_i_masked
  simp only [val_ob, val_leaf]
  rw [show iterO B_i_masked_3 (c, [], k, (k.length : Int), (0 : Int), ()) = _ from hr]
  rfl
theorem s_masks (m k : List YB) (h : k.length = 64) : iterO B_s_Hmac_7 (m, k, [], [], (0 : Int), ()) = some (m, masked k 54, masked k 92, ()) := by
  have hr := loop_run (B := B_s_Hmac_7) 64 (fun i => (m, k, masked (k.take i) 54, masked (k.take i) 92, (i : Int), ())) (m, masked k 54, masked k 92, ())
    (fun i hi => by
      have hx := List.getElem?_eq_getElem (show i < k.length by omega)
      unfold B_s_Hmac_7
      simp only [val_br, val_ob, val_leaf, val_chk]
      rw [dec_t (by omega), br_t, idx_at hx]
      simp only [ob_s]
      rw [dec_t (by simp [masked_len]; omega), chk_t, dec_t (by simp [masked_len]; omega), chk_t, w64 (by omega), ← snoc_take hx, masked_snoc, masked_snoc]
      rfl)
    (by unfold B_s_Hmac_7; simp only [val_br, val_leaf, val_ob, val_chk]; rw [dec_f (by omega), br_f, ← h, List.take_length])
  exact hr
def hmac (k m : List YB) : List YB := if k.length > 1048576 then [] else if m.length > 1048512 then [] else sha (masked (blockKey k) 92 ++ sha (masked (blockKey k) 54 ++ m))
theorem i_Hmac (k m : List YB) : V_i_Hmac (k, ()) (m, ()) = some (hmac k m, ()) := by
  have hb := blockKey_len k
  unfold V_i_Hmac T_i_Hmac hmac
  simp only [val_br, val_ob, val_leaf]
  by_cases h1 : k.length > 1048576
  · rw [dec_t (by omega), br_t, if_pos h1]
  rw [dec_f (by omega), br_f, if_neg h1]
  by_cases h2 : m.length > 1048512
  · rw [dec_t (by omega), br_t, if_pos h2]
  have hs := sha_le (masked (blockKey k) 54 ++ m)
  rw [dec_f (by omega), br_f, if_neg h2, i_BlockKey _ (by omega), ob_s, i_masked _ _ (by omega), ob_s, i_masked _ _ (by omega), ob_s, i_joined _ (by simp [cat, masked_len]; omega) (by simp), ob_s,
    show cat [(masked (blockKey k) 54, ()), (m, ())] = masked (blockKey k) 54 ++ m by simp [cat], i_Sha _ (by simp [masked_len]; omega), ob_s, i_joined _ (by simp [cat, masked_len]; omega) (by simp), ob_s,
    show cat [(masked (blockKey k) 92, ()), (sha (masked (blockKey k) 54 ++ m), ())] = masked (blockKey k) 92 ++ sha (masked (blockKey k) 54 ++ m) by simp [cat], i_Sha _ (by simp [masked_len]; omega), ob_s]
theorem s_Hmac (k m : List YB) : V_s_Hmac (k, ()) (m, ()) = some (hmac k m, ()) := by
  have hb := blockKey_len k
  unfold V_s_Hmac T_s_Hmac hmac
  simp only [val_br, val_ob, val_leaf, val_chk]
  by_cases h1 : k.length > 1048576
  · rw [dec_t (by omega), br_t, if_pos h1]
  rw [dec_f (by omega), br_f, if_neg h1]
  by_cases h2 : m.length > 1048512
  · rw [dec_t (by omega), br_t, if_pos h2]
  have hs := sha_le (masked (blockKey k) 54 ++ m)
  rw [dec_f (by omega), br_f, if_neg h2, s_BlockKey _ (by omega), ob_s, s_masks _ _ hb, ob_s]
  simp only
  rw [dec_t (by simp [masked_len]; omega), chk_t, s_Sha, ob_s, dec_t (by simp [masked_len]; omega), chk_t, s_Sha, ob_s]
theorem hmac_len (k m : List YB) : (hmac k m).length = 32 ∨ (hmac k m).length = 0 := by
  unfold hmac
  split
  · exact .inr rfl
  split
  · exact .inr rfl
  exact sha_len _
theorem hmac_32 (k m : List YB) (h1 : k.length ≤ 1048576) (h2 : m.length ≤ 1048512) : (hmac k m).length = 32 := by
  have hb := blockKey_len k
  have hs := sha_le (masked (blockKey k) 54 ++ m)
  unfold hmac
  rw [if_neg (by omega), if_neg (by omega)]
  exact sha_32 _ (by simp [masked_len]; omega)
end
end Go.Proofs.YtdlcjpjflckdlaaGreat

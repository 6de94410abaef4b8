/-
  That the program and the reference answer alike, in plain terms, and that the laws answer true.
-/
import Derived.Test.YtdlcjpjflckdlaaGreatL9
namespace Go.Proofs.YtdlcjpjflckdlaaGreat
open Go.RowKit
set_option linter.unusedVariables false
set_option linter.unusedSimpArgs false
set_option maxHeartbeats 4000000
noncomputable section
/-! ## Message authentication -/
theorem sha_32 (b : List YB) (h : b.length ≤ 1048576) : (sha b).length = 32 := by
  unfold sha
  rw [if_pos h, wOut_len, (cAll_ok _ startL _ (Nat.le_refl _) (by decide)).2.1]; rfl
theorem sha_le (b : List YB) : (sha b).length ≤ 32 := by rcases sha_len b with h | h <;> omega
def keyPad (k : List YB) : List YB := k ++ List.replicate (64 - k.length) ((0 : Int), ())
def blockKey (k : List YB) : List YB := keyPad (if k.length > 64 then sha k else k)
theorem keyLoop (k : List YB) (h : k.length ≤ 64) : iterO B_i_BlockKey_6 (k, ()) = some (keyPad k, ()) := by
  have hr := loop_run (B := B_i_BlockKey_6) (64 - k.length) (fun i => (k ++ List.replicate i ((0 : Int), ()), ())) (keyPad k, ())
    (fun i hi => by
      unfold B_i_BlockKey_6
      simp only [val_br, val_chk, val_leaf]
      rw [dec_t (by simp; omega), br_t, dec_t (by simp; omega), chk_t, List.append_assoc, ← List.replicate_succ'])
    (by
      unfold B_i_BlockKey_6
      simp only [val_br, val_chk, val_leaf]
      rw [dec_f (by simp; omega), br_f]; rfl)
  simpa using hr
theorem keyPad_len (k : List YB) (h : k.length ≤ 64) : (keyPad k).length = 64 := by unfold keyPad; simp; omega
theorem blockKey_len (k : List YB) : (blockKey k).length = 64 := by
  unfold blockKey
  refine keyPad_len _ ?_
  split
  · have := sha_le k; omega
  · omega
theorem i_BlockKey (k : List YB) (h : k.length ≤ 1048576) : V_i_BlockKey (k, ()) = some (blockKey k, ()) := by
  unfold V_i_BlockKey T_i_BlockKey blockKey
  simp only [val_br, val_ob, val_leaf]
  rw [dec_f (by omega), br_f, i_clone _ (by dsimp only; omega), ob_s]
  by_cases h1 : k.length > 64
  · have := sha_le k
    rw [dec_t (by omega), br_t, i_Sha _ (by omega), ob_s, keyLoop _ (by omega), if_pos h1]; rfl
  · rw [dec_f (by omega), br_f, keyLoop _ (by omega), if_neg h1]; rfl
theorem s_BlockKey (k : List YB) (h : k.length ≤ 1048576) : V_s_BlockKey (k, ()) = some (blockKey k, ()) := by
  unfold V_s_BlockKey T_s_BlockKey blockKey
  simp only [val_br, val_ob, val_leaf, val_chk, List.nil_append, List.length_nil, Nat.zero_add]
  rw [dec_f (by omega), br_f, dec_t (by omega), chk_t, show B_s_BlockKey_6 = B_i_BlockKey_6 from rfl]
  by_cases h1 : k.length > 64
  · have := sha_le k
    rw [dec_t (by omega), br_t, s_Sha, ob_s, keyLoop _ (by omega), if_pos h1]; rfl
  · rw [dec_f (by omega), br_f, keyLoop _ (by omega), if_neg h1]; rfl
def xorB (x c : Int) : YB := (IntKind.u8.wrap ((BitVec.ofInt (IntKind.u8.bits) x ^^^ BitVec.ofInt (IntKind.u8.bits) c).toNat : Nat), ())
def masked (k : List YB) (c : Int) : List YB := k.map fun x => xorB x.1 c
theorem masked_len (k : List YB) (c : Int) : (masked k c).length = k.length := by simp [masked]
theorem masked_snoc (k : List YB) (x : YB) (c : Int) : masked (k ++ [x]) c = masked k c ++ [xorB x.1 c] := by simp [masked]
theorem i_masked (k : List YB) (c : Int) (h : k.length ≤ 1048576) : V_i_masked (k, ()) (c, ()) = some (masked k c, ()) := by
  have hr := loop_run (B := B_i_masked_3) k.length (fun i => (c, masked (k.take i) c, k, (k.length : Int), (i : Int), ())) (masked k c, ())
    (fun i hi => by
      have hx := List.getElem?_eq_getElem hi
      unfold B_i_masked_3
      simp only [val_br, val_ob, val_leaf, val_chk, lt_dec hi, br_t, idx_at hx, ob_s]
      rw [dec_t (by simp [masked_len]; omega), chk_t, w64 (by omega), ← snoc_take hx, masked_snoc]
      rfl)
    (by unfold B_i_masked_3; simp only [val_br, val_leaf, ge_dec, br_f, List.take_length])
  unfold V_i_masked T_i_masked
  simp only [val_ob, val_leaf]
  rw [show iterO B_i_masked_3 (c, [], k, (k.length : Int), (0 : Int), ()) = _ from hr]
  rfl
theorem s_masks (m k : List YB) (h : k.length = 64) : iterO B_s_Hmac_7 (m, k, [], [], (0 : Int), ()) = some (m, masked k 54, masked k 92, ()) := by
  have hr := loop_run (B := B_s_Hmac_7) 64 (fun i => (m, k, masked (k.take i) 54, masked (k.take i) 92, (i : Int), ())) (m, masked k 54, masked k 92, ())
    (fun i hi => by
      have hx := List.getElem?_eq_getElem (show i < k.length by omega)
      unfold B_s_Hmac_7
      simp only [val_br, val_ob, val_leaf, val_chk]
      rw [dec_t (by omega), br_t, idx_at hx]
      simp only [ob_s]
      rw [dec_t (by simp [masked_len]; omega), chk_t, dec_t (by simp [masked_len]; omega), chk_t, w64 (by omega), ← snoc_take hx, masked_snoc, masked_snoc]
      rfl)
    (by unfold B_s_Hmac_7; simp only [val_br, val_leaf, val_ob, val_chk]; rw [dec_f (by omega), br_f, ← h, List.take_length])
  exact hr
def hmac (k m : List YB) : List YB := if k.length > 1048576 then [] else if m.length > 1048512 then [] else sha (masked (blockKey k) 92 ++ sha (masked (blockKey k) 54 ++ m))
theorem i_Hmac (k m : List YB) : V_i_Hmac (k, ()) (m, ()) = some (hmac k m, ()) := by
  have hb := blockKey_len k
  unfold V_i_Hmac T_i_Hmac hmac
  simp only [val_br, val_ob, val_leaf]
  by_cases h1 : k.length > 1048576
  · rw [dec_t (by omega), br_t, if_pos h1]
  rw [dec_f (by omega), br_f, if_neg h1]
  by_cases h2 : m.length > 1048512
  · rw [dec_t (by omega), br_t, if_pos h2]
  have hs := sha_le (masked (blockKey k) 54 ++ m)
  rw [dec_f (by omega), br_f, if_neg h2, i_BlockKey _ (by omega), ob_s, i_masked _ _ (by omega), ob_s, i_masked _ _ (by omega), ob_s, i_joined _ (by simp [cat, masked_len]; omega) (by simp), ob_s,
    show cat [(masked (blockKey k) 54, ()), (m, ())] = masked (blockKey k) 54 ++ m by simp [cat], i_Sha _ (by simp [masked_len]; omega), ob_s, i_joined _ (by simp [cat, masked_len]; omega) (by simp), ob_s,
    show cat [(masked (blockKey k) 92, ()), (sha (masked (blockKey k) 54 ++ m), ())] = masked (blockKey k) 92 ++ sha (masked (blockKey k) 54 ++ m) by simp [cat], i_Sha _ (by simp [masked_len]; omega), ob_s]
theorem s_Hmac (k m : List YB) : V_s_Hmac (k, ()) (m, ()) = some (hmac k m, ()) := by
  have hb := blockKey_len k
  unfold V_s_Hmac T_s_Hmac hmac
  simp only [val_br, val_ob, val_leaf, val_chk]
  by_cases h1 : k.length > 1048576
  · rw [dec_t (by omega), br_t, if_pos h1]
  rw [dec_f (by omega), br_f, if_neg h1]
  by_cases h2 : m.length > 1048512
  · rw [dec_t (by omega), br_t, if_pos h2]
  have hs := sha_le (masked (blockKey k) 54 ++ m)
  rw [dec_f (by omega), br_f, if_neg h2, s_BlockKey _ (by omega), ob_s, s_masks _ _ hb, ob_s]
  simp only
  rw [dec_t (by simp [masked_len]; omega), chk_t, s_Sha, ob_s, dec_t (by simp [masked_len]; omega), chk_t, s_Sha, ob_s]
theorem hmac_len (k m : List YB) : (hmac k m).length = 32 ∨ (hmac k m).length = 0 := by
  unfold hmac
  split
  · exact .inr rfl
  split
  · exact .inr rfl
  exact sha_len _
theorem hmac_32 (k m : List YB) (h1 : k.length ≤ 1048576) (h2 : m.length ≤ 1048512) : (hmac k m).length = 32 := by
  have hb := blockKey_len k
  have hs := sha_le (masked (blockKey k) 54 ++ m)
  unfold hmac
  rw [if_neg (by omega), if_neg (by omega)]
  exact sha_32 _ (by simp [masked_len]; omega)
def tagF (k m : List YB) : List YB := (hmac k m).take 16
theorem i_Tag (k m : List YB) : V_i_Tag (k, ()) (m, ()) = some (tagF k m, ()) := by
  unfold V_i_Tag T_i_Tag tagF
  simp only [val_br, val_ob, val_leaf, val_chk, i_Hmac, ob_s]
  rcases hmac_len k m with h | h
  · rw [br_ff (by simp [h]), dec_t (by omega), chk_t]
    simp only [show (16 : Int).toNat = 16 from rfl, show (0 : Int).toNat = 0 from rfl, List.drop_zero]
    rw [i_clone _ (by simp; omega), ob_s]
  · rw [br_tt (by simp [h]), List.eq_nil_of_length_eq_zero h]; rfl
theorem s_Tag (k m : List YB) : V_s_Tag (k, ()) (m, ()) = some (tagF k m, ()) := by
  unfold V_s_Tag T_s_Tag tagF
  simp only [val_br, val_ob, val_leaf, val_chk, s_Hmac, ob_s, List.nil_append, List.length_nil, Nat.zero_add]
  rcases hmac_len k m with h | h
  · rw [dec_f (by omega), br_f, dec_t (by omega), chk_t]
    simp only [show (16 : Int).toNat = 16 from rfl, show (0 : Int).toNat = 0 from rfl, List.drop_zero]
    rw [dec_t (by simp; omega), chk_t]
  · rw [dec_t (by omega), br_t, List.eq_nil_of_length_eq_zero h]; rfl
theorem tagF_le (k m : List YB) : (tagF k m).length ≤ 16 := by unfold tagF; simp; omega
def blockOf (k n : List YB) (i : Int) : List YB := if inR i 0 6 = true ∧ n.length ≤ 100 then hmac k ((((115 : Int), ()) :: n) ++ bytN i 4 4) else []
theorem i_BlockOf (k n : List YB) (i : Int) : V_i_BlockOf (k, ()) (n, ()) (i, ()) = some (blockOf k n i, ()) := by
  unfold V_i_BlockOf T_i_BlockOf blockOf
  simp only [val_br, val_ob, val_leaf, i_within, ob_s]
  cases hi : inR i 0 6 with
  | false => simp [br]
  | true =>
    simp only [Bool.not_true, br_f]
    by_cases hn : n.length ≤ 100
    · rw [dec_f (by omega), br_f, i_joined _ (by simp [cat]; omega) (by simp), ob_s, show cat [([((115 : Int), ())], ()), (n, ())] = ((115 : Int), ()) :: n by simp [cat], i_PutN4 _ _ (by simp; omega), ob_s, i_Hmac, ob_s, if_pos ⟨trivial, hn⟩]
    · rw [dec_t (by omega), br_t, if_neg (fun h => hn h.2)]
theorem s_BlockOf (k n : List YB) (i : Int) : V_s_BlockOf (k, ()) (n, ()) (i, ()) = some (blockOf k n i, ()) := by
  unfold V_s_BlockOf T_s_BlockOf blockOf
  simp only [val_br, val_ob, val_leaf, val_chk, s_l1In, ob_s]
  cases hi : inR i 0 6 with
  | false => simp [br]
  | true =>
    simp only [Bool.not_true, br_f]
    by_cases hn : n.length ≤ 100
    · rw [dec_f (by omega), br_f, dec_t (by simp; omega), chk_t, s_PutN4 _ _ (by simp; omega), ob_s, s_Hmac, ob_s, if_pos ⟨trivial, hn⟩]; rfl
    · rw [dec_t (by omega), br_t, if_neg (fun h => hn h.2)]
theorem blockOf_32 (k n : List YB) (i : Int) (h0 : 0 ≤ i) (h1 : i ≤ 6) (hn : n.length ≤ 100) (hk : k.length ≤ 1048576) : (blockOf k n i).length = 32 := by
  unfold blockOf
  rw [if_pos ⟨inR_iff.2 ⟨h0, h1⟩, hn⟩]
  exact hmac_32 _ _ hk (by simp [bytN_len]; omega)
def blocks (k n : List YB) (i : Nat) : List YB := (List.range i).flatMap fun (j : Nat) => blockOf k n (j : Int)
theorem blocks_succ (k n : List YB) (i : Nat) : blocks k n (i + 1) = blocks k n i ++ blockOf k n (i : Int) := by unfold blocks; rw [List.range_succ, List.flatMap_append]; simp
theorem blocks_len (k n : List YB) (i : Nat) (h : i ≤ 7) (hn : n.length ≤ 100) (hk : k.length ≤ 1048576) : (blocks k n i).length = 32 * i := by
  induction i with
  | zero => rfl
  | succ i ih => rw [blocks_succ, List.length_append, ih (by omega), blockOf_32 _ _ _ (by omega) (by omega) hn hk]; omega
def stream (k n : List YB) (m : Nat) : List YB := (blocks k n ((m + 31) / 32)).take m
theorem stream_len (k n : List YB) (m : Nat) (hm : m ≤ 200) (hn : n.length ≤ 100) (hk : k.length ≤ 1048576) : (stream k n m).length = m := by
  unfold stream
  rw [List.length_take, blocks_len _ _ _ (by omega) hn hk]; omega
theorem i_Stream (k n : List YB) (m : Nat) (hm : m ≤ 200) (hn : n.length ≤ 100) (hk : k.length ≤ 1048576) : V_i_Stream (k, ()) (n, ()) ((m : Int), ()) = some (stream k n m, ()) := by
  have hbl := blocks_len k n ((m + 31) / 32) (by omega) hn hk
  have hr := loop_run (B := B_i_Stream_5) ((m + 31) / 32) (fun i => (k, n, (m : Int), blocks k n i, (i : Int), ())) ((m : Int), blocks k n ((m + 31) / 32), ())
    (fun i hi => by
      have hl := blocks_len k n i (by omega) hn hk
      have hl2 := blockOf_32 k n (i : Int) (by omega) (by omega) hn hk
      unfold B_i_Stream_5
      simp only [val_br, val_ob, val_leaf, val_chk]
      rw [dec_t (by omega), br_t, i_BlockOf, ob_s, dec_t (by dsimp only; omega), chk_t, w64 (by omega), blocks_succ]
      rfl)
    (by
      unfold B_i_Stream_5
      simp only [val_br, val_ob, val_leaf, val_chk]
      rw [dec_f (by omega), br_f])
  unfold V_i_Stream T_i_Stream
  simp only [val_br, val_ob, val_leaf, val_chk, i_within, ob_s]
  rw [br_ff (by simp [inR]; omega), dec_f (by omega), br_f, dec_f (by omega), br_f, show iterO B_i_Stream_5 (k, n, (m : Int), [], (0 : Int), ()) = _ from hr, ob_s]
  simp only [Int.toNat_natCast, show (0 : Int).toNat = 0 from rfl, List.drop_zero]
  rw [dec_t (by omega), chk_t, dec_t (by omega), chk_t, i_clone _ (by simp; omega), ob_s]
  rfl
theorem s_Stream (k n : List YB) (m : Nat) (hm : m ≤ 200) (hn : n.length ≤ 100) (hk : k.length ≤ 1048576) : V_s_Stream (k, ()) (n, ()) ((m : Int), ()) = some (stream k n m, ()) := by
  have hbl := blocks_len k n ((m + 31) / 32) (by omega) hn hk
  have hr := loop_run (B := B_s_Stream_5) ((m + 31) / 32) (fun i => (k, n, (m : Int), blocks k n i, (i : Int), ())) ((m : Int), blocks k n ((m + 31) / 32), ())
    (fun i hi => by
      have hl := blocks_len k n i (by omega) hn hk
      have hl2 := blockOf_32 k n (i : Int) (by omega) (by omega) hn hk
      unfold B_s_Stream_5
      simp only [val_br, val_ob, val_leaf, val_chk]
      rw [dec_t (by omega), br_t, s_BlockOf, ob_s, dec_t (by dsimp only; omega), chk_t, w64 (by omega), blocks_succ]
      rfl)
    (by
      unfold B_s_Stream_5
      simp only [val_br, val_ob, val_leaf, val_chk]
      rw [dec_f (by omega), br_f])
  unfold V_s_Stream T_s_Stream
  simp only [val_br, val_ob, val_leaf, val_chk, s_l1In, ob_s]
  rw [br_ff (by simp [inR]; omega), dec_f (by omega), br_f, dec_f (by omega), br_f, show iterO B_s_Stream_5 (k, n, (m : Int), [], (0 : Int), ()) = _ from hr, ob_s]
  simp only [Int.toNat_natCast, show (0 : Int).toNat = 0 from rfl, List.drop_zero, List.nil_append, List.length_nil, Nat.zero_add]
  rw [dec_t (by omega), chk_t, dec_t (by omega), chk_t, dec_t (by simp; omega), chk_t]
  rfl
def mixN (st p : List YB) (i : Nat) : List YB := (List.range i).map fun j => xorB (st[j]?.getD (0, ())).1 (p[j]?.getD (0, ())).1
theorem mixN_succ (st p : List YB) (i : Nat) : mixN st p (i + 1) = mixN st p i ++ [xorB (st[i]?.getD (0, ())).1 (p[i]?.getD (0, ())).1] := by unfold mixN; rw [List.range_succ, List.map_append]; rfl
theorem mixN_len (st p : List YB) (i : Nat) : (mixN st p i).length = i := by simp [mixN]
def mix (k n p : List YB) : List YB := if p.length ≤ 200 ∧ n.length ≤ 100 ∧ k.length ≤ 1048576 then mixN (stream k n p.length) p p.length else []
theorem mix_le (k n p : List YB) : (mix k n p).length ≤ p.length := by
  unfold mix
  split
  · rw [mixN_len]; exact Nat.le_refl _
  · simp
theorem i_Mix (k n p : List YB) : V_i_Mix (k, ()) (n, ()) (p, ()) = some (mix k n p, ()) := by
  unfold V_i_Mix T_i_Mix mix
  simp only [val_br, val_ob, val_leaf]
  by_cases h1 : p.length ≤ 200
  · rw [dec_f (by omega), br_f]
    by_cases h2 : n.length ≤ 100
    · rw [dec_f (by omega), br_f]
      by_cases h3 : k.length ≤ 1048576
      · have hs := stream_len k n p.length h1 h2 h3
        have hr := loop_run (B := B_i_Mix_5) p.length (fun i => (p, mixN (stream k n p.length) p i, stream k n p.length, ((stream k n p.length).length : Int), (i : Int), ())) (mixN (stream k n p.length) p p.length, ())
          (fun i hi => by
            have hx := List.getElem?_eq_getElem hi
            have hy := List.getElem?_eq_getElem (show i < (stream k n p.length).length by omega)
            unfold B_i_Mix_5
            simp only [val_br, val_ob, val_leaf, val_chk]
            rw [dec_t (by omega), br_t, idx_at hy, ob_s, idx_at hx, ob_s, dec_t (by simp [mixN_len]; omega), chk_t, w64 (by omega), mixN_succ, hx, hy]
            rfl)
          (by
            unfold B_i_Mix_5
            simp only [val_br, val_ob, val_leaf, val_chk]
            rw [dec_f (by omega), br_f])
        rw [dec_f (by omega), br_f, i_Stream _ _ _ h1 h2 h3, ob_s, if_pos ⟨h1, h2, h3⟩]
        simp only
        rw [show iterO B_i_Mix_5 (p, [], stream k n p.length, ((stream k n p.length).length : Int), (0 : Int), ()) = _ from hr]
        rfl
      · rw [dec_t (by omega), br_t, if_neg (by omega)]
    · rw [dec_t (by omega), br_t, if_neg (by omega)]
  · rw [dec_t (by omega), br_t, if_neg (by omega)]
theorem xorB_comm (a b : Int) : xorB a b = xorB b a := by unfold xorB; rw [BitVec.xor_comm]
theorem s_Mix (k n p : List YB) : V_s_Mix (k, ()) (n, ()) (p, ()) = some (mix k n p, ()) := by
  unfold V_s_Mix T_s_Mix mix
  simp only [val_br, val_ob, val_leaf]
  by_cases h1 : p.length ≤ 200
  · rw [dec_f (by omega), br_f]
    by_cases h2 : n.length ≤ 100
    · rw [dec_f (by omega), br_f]
      by_cases h3 : k.length ≤ 1048576
      · have hs := stream_len k n p.length h1 h2 h3
        have hr := loop_run (B := B_s_Mix_6) p.length (fun i => (p, mixN (stream k n p.length) p i, stream k n p.length, (i : Int), ())) (mixN (stream k n p.length) p p.length, ())
          (fun i hi => by
            have hx := List.getElem?_eq_getElem hi
            have hy := List.getElem?_eq_getElem (show i < (stream k n p.length).length by omega)
            unfold B_s_Mix_6
            simp only [val_br, val_ob, val_leaf, val_chk]
            rw [dec_t (by omega), br_t, idx_at hx, ob_s, idx_at hy, ob_s, dec_t (by simp [mixN_len]; omega), chk_t, w64 (by omega), mixN_succ, hx, hy]
            rw [xorB_comm]
            rfl)
          (by
            unfold B_s_Mix_6
            simp only [val_br, val_ob, val_leaf, val_chk]
            rw [dec_f (by omega), br_f])
        rw [dec_f (by omega), br_f, s_Stream _ _ _ h1 h2 h3, ob_s, if_pos ⟨h1, h2, h3⟩]
        simp only
        rw [show iterO B_s_Mix_6 (p, [], stream k n p.length, (0 : Int), ()) = _ from hr]
        rfl
      · rw [dec_t (by omega), br_t, if_neg (by omega)]
    · rw [dec_t (by omega), br_t, if_neg (by omega)]
  · rw [dec_t (by omega), br_t, if_neg (by omega)]
end
end Go.Proofs.YtdlcjpjflckdlaaGreat

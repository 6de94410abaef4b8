/-
  That the program and the reference answer alike, in plain terms, and that the laws answer true.
-/
import Derived.Test.YtdlcjpjflckdlaaGreatL8
namespace Go.Proofs.YtdlcjpjflckdlaaGreat
open Go.RowKit
set_option linter.unusedVariables false
set_option linter.unusedSimpArgs false
set_option maxHeartbeats 4000000
noncomputable section
/-! ## All blocks -/
def cAll (h : List YI) (b : List YB) : List YI × List YB := if 64 ≤ b.length then cAll (compress h (b.take 64)) (b.drop 64) else (h, b)
termination_by b.length
decreasing_by simp; omega
theorem cAll_more {h : List YI} {b : List YB} (hb : 64 ≤ b.length) : cAll h b = cAll (compress h (b.take 64)) (b.drop 64) := by rw [cAll, if_pos hb]
theorem cAll_done {h : List YI} {b : List YB} (hb : ¬ 64 ≤ b.length) : cAll h b = (h, b) := by rw [cAll, if_neg hb]
theorem cAll_app : ∀ (n : Nat) (h : List YI) (b p : List YB), b.length ≤ n → cAll h (b ++ p) = cAll (cAll h b).1 ((cAll h b).2 ++ p) := by
  intro n
  induction n with
  | zero => intro h b p hn; rw [cAll_done (b := b) (by omega)]
  | succ n ih =>
    intro h b p hn
    by_cases hb : 64 ≤ b.length
    · rw [cAll_more (b := b) hb, cAll_more (b := b ++ p) (by simp; omega), List.take_append_of_le_length hb, List.drop_append_of_le_length hb]
      exact ih _ _ _ (by simp; omega)
    · rw [cAll_done (b := b) hb]
theorem cAll_ok : ∀ (n : Nat) (h : List YI) (b : List YB), b.length ≤ n → h.length ≤ 1073741824 → (cAll h b).2.length = b.length % 64 ∧ (cAll h b).1.length = h.length ∧ (wordsB h = true → wordsB (cAll h b).1 = true) := by
  intro n
  induction n with
  | zero => intro h b hn hh; rw [cAll_done (by omega)]; exact ⟨by simp; omega, rfl, id⟩
  | succ n ih =>
    intro h b hn hh
    by_cases hb : 64 ≤ b.length
    · rw [cAll_more hb]
      have hc := compress_len h (b.take 64) hh (by simp; omega)
      obtain ⟨h1, h2, h3⟩ := ih (compress h (b.take 64)) (b.drop 64) (by simp; omega) (by omega)
      refine ⟨?_, by omega, fun hw => h3 (hc.2 hw)⟩
      rw [h1, List.length_drop]; omega
    · rw [cAll_done hb]; exact ⟨by simp only; omega, rfl, id⟩
theorem i_compressAll (h : List YI) (b : List YB) (hh : h.length ≤ 1073741824) (hb : b.length ≤ 4294967296) : V_i_compressAll (h, ()) (b, ()) = some (((cAll h b).1, ()), ((cAll h b).2, ())) := by
  have key : ∀ (n : Nat) (h : List YI) (b : List YB), b.length ≤ n → h.length ≤ 1073741824 → b.length ≤ 4294967296 → iterO B_i_compressAll_1 (h, b, ()) = some ((cAll h b).1, (cAll h b).2, ()) := by
    intro n
    induction n with
    | zero =>
      intro h b hn hh hb
      rw [cAll_done (by omega), iterO_eq]
      unfold B_i_compressAll_1
      simp only [val_br, val_chk, val_ob, val_leaf]
      rw [dec_f (by omega), br_f]
    | succ n ih =>
      intro h b hn hh hb
      rw [iterO_eq]
      by_cases h64 : 64 ≤ b.length
      · have hB : B_i_compressAll_1 (h, b, ()) = some (.inl (compress h (b.take 64), b.drop 64, ())) := by
          unfold B_i_compressAll_1
          simp only [val_br, val_chk, val_ob, val_leaf]
          rw [dec_t (by omega), br_t, dec_t (by omega)]
          simp only [chk_t, show (64 : Int).toNat = 64 from rfl, show (0 : Int).toNat = 0 from rfl, List.drop_zero, Int.toNat_natCast, List.take_length]
          rw [i_Compress _ _ hh (by simp; omega), ob_s]
        have hc := compress_len h (b.take 64) hh (by simp; omega)
        rw [hB, cAll_more h64, ← ih (compress h (b.take 64)) (b.drop 64) (by simp; omega) (by omega) (by simp; omega)]
      · unfold B_i_compressAll_1
        simp only [val_br, val_chk, val_ob, val_leaf]
        rw [dec_f (by omega), br_f, cAll_done h64]
  unfold V_i_compressAll T_i_compressAll
  simp only [val_ob, val_leaf]
  rw [key _ h b (Nat.le_refl _) hh hb]
  rfl
theorem s_shaLoop (all : List YB) (ha : all.length ≤ 4294967296) : ∀ (n i : Nat) (h : List YI), all.length - i ≤ n → i ≤ all.length → (all.length - i) % 64 = 0 → h.length ≤ 1073741824 → iterO B_s_Sha_6 (all, h, (i : Int), ()) = some ((cAll h (all.drop i)).1, ()) := by
  intro n
  induction n with
  | zero =>
    intro i h hn hi hm hh
    rw [cAll_done (by simp; omega), iterO_eq]
    unfold B_s_Sha_6
    simp only [val_br, val_chk, val_ob, val_leaf]
    rw [dec_f (by omega), br_f]
  | succ n ih =>
    intro i h hn hi hm hh
    rw [iterO_eq]
    unfold B_s_Sha_6
    simp only [val_br, val_chk, val_ob, val_leaf]
    by_cases h64 : i < all.length
    · rw [dec_t (by omega), br_t, dec_t (by omega), chk_t, w64 (n := (i : Int) + 64) (by omega), dec_t (by omega), chk_t, dec_t (by omega), chk_t]
      have e : (all.take ((i : Int) + 64).toNat).drop ((i : Int)).toNat = (all.drop i).take 64 := by
        rw [show ((i : Int) + 64).toNat = i + 64 by omega, Int.toNat_natCast, List.drop_take, Nat.add_sub_cancel_left]
      rw [e, s_Compress _ _ hh (by simp; omega), ob_s]
      simp only
      have hc := compress_len h ((all.drop i).take 64) hh (by simp; omega)
      rw [cAll_more (b := all.drop i) (by simp; omega), List.drop_drop, show (i : Int) + 64 = ((i + 64 : Nat) : Int) by omega]
      exact ih (i + 64) _ (by omega) (by omega) (by omega) (by omega)
    · rw [dec_f (by omega), br_f, cAll_done (by simp; omega)]
theorem byt_zero (m : Int) (j : Nat) (h0 : 0 ≤ m) (h1 : m < 4294967296) (hj : 4 ≤ j) (hj2 : j ≤ 7) : byt m j = ((0 : Int), ()) := by
  have e : Int.fdiv m (2 ^ (min (8 * j) IntKind.i64.bits)) = 0 := by
    have hp : (4294967296 : Int) ≤ 2 ^ (min (8 * j) IntKind.i64.bits) := by
      have : j = 4 ∨ j = 5 ∨ j = 6 ∨ j = 7 := by omega
      rcases this with rfl | rfl | rfl | rfl <;> decide
    rw [Int.fdiv_eq_ediv_of_nonneg _ (by omega)]
    exact Int.ediv_eq_zero_of_lt h0 (by omega)
  unfold byt
  rw [e]; rfl
def padK (n : Nat) : Nat := (64 - (n + 9) % 64) % 64
def padL (n : Nat) : List YB := (((128 : Int), ()) :: List.replicate (padK n) ((0 : Int), ())) ++ ([((0 : Int), ()), ((0 : Int), ())] ++ bytN (8 * (n : Int)) 6 6)
theorem padL_len (n : Nat) : (padL n).length = padK n + 9 := by simp [padL, bytN_len]
theorem padLoop (n : Nat) (h : n ≤ 1048576) : iterO B_i_Pad_4 ((n : Int), [((128 : Int), ())], ()) = some ((n : Int), ((128 : Int), ()) :: List.replicate (padK n) ((0 : Int), ()), ()) := by
  have hk : padK n = (64 - (n + 9) % 64) % 64 := rfl
  refine loop_run (B := B_i_Pad_4) (padK n) (fun i => ((n : Int), ((128 : Int), ()) :: List.replicate i ((0 : Int), ()), ())) _ (fun i hi => ?_) ?_
  · unfold B_i_Pad_4
    simp only [val_br, val_chk, val_leaf, List.length_cons, List.length_replicate]
    rw [w64 (n := (n : Int) + ((i + 1 : Nat) : Int)) (by omega), w64 (by omega), dec_t (by omega), chk_t, br_tt (by simp; omega), dec_t (by simp; omega), chk_t, List.cons_append, ← List.replicate_succ']
  · unfold B_i_Pad_4
    simp only [val_br, val_chk, val_leaf, List.length_cons, List.length_replicate]
    rw [w64 (n := (n : Int) + ((padK n + 1 : Nat) : Int)) (by omega), w64 (by omega), dec_t (by omega), chk_t, br_ff (by simp; omega)]
theorem i_Pad (n : Nat) (h : n ≤ 1048576) : V_i_Pad ((n : Int), ()) = some (padL n, ()) := by
  have hk : padK n < 64 := Nat.mod_lt _ (by omega)
  unfold V_i_Pad T_i_Pad
  simp only [val_br, val_chk, val_ob, val_leaf, i_within, ob_s]
  rw [br_ff (by simp [inR]; omega), padLoop n h, ob_s, dec_t (by simp; omega), chk_t, w64 (by omega), i_PutN6 _ _ (by simp; omega), ob_s]
  unfold padL
  simp
theorem s_Pad (n : Nat) (h : n ≤ 1048576) : V_s_Pad ((n : Int), ()) = some (padL n, ()) := by
  have hk : padK n < 64 := Nat.mod_lt _ (by omega)
  unfold V_s_Pad T_s_Pad
  simp only [val_br, val_chk, val_ob, val_leaf, ob_s]
  rw [dec_f (by omega), br_f, dec_f (by omega), br_f, show B_s_Pad_4 = B_i_Pad_4 from rfl, padLoop n h, ob_s, s_PutN4 _ _ (by simp; omega), ob_s, s_PutN4 _ _ (by simp [bytN_len]; omega), ob_s, w64 (by omega)]
  unfold padL
  have e0 : bytN 0 4 4 = [((0 : Int), ()), ((0 : Int), ()), ((0 : Int), ()), ((0 : Int), ())] := by
    unfold bytN
    simp only [show List.range 4 = [0, 1, 2, 3] from rfl, List.map]
    rfl
  have e6 : bytN (8 * (n : Int)) 6 6 = [((0 : Int), ()), ((0 : Int), ())] ++ bytN (8 * (n : Int)) 4 4 := by
    have a := byt_zero (8 * (n : Int)) 5 (by omega) (by omega) (by omega) (by omega)
    have b := byt_zero (8 * (n : Int)) 4 (by omega) (by omega) (by omega) (by omega)
    unfold bytN
    simp only [show List.range 4 = [0, 1, 2, 3] from rfl, show List.range 6 = [0, 1, 2, 3, 4, 5] from rfl, List.map]
    rw [show 6 - 1 - 0 = 5 from rfl, show 6 - 1 - 1 = 4 from rfl, a, b]
    rfl
  rw [e0, e6]
  simp
def wOut (l : List YI) : List YB := l.flatMap fun x => bytN x.1 4 4
theorem wOut_len (l : List YI) : (wOut l).length = 4 * l.length := by
  unfold wOut
  induction l with
  | nil => rfl
  | cons x r ih => simp only [List.flatMap_cons, List.length_append, bytN_len, ih, List.length_cons]; omega
theorem wOut_snoc (l : List YI) (x : YI) : wOut (l ++ [x]) = wOut l ++ bytN x.1 4 4 := by simp [wOut]
theorem i_wordBytes (l : List YI) (h : l.length ≤ 1048576) : V_i_wordBytes (l, ()) = some (wOut l, ()) := by
  have hr := loop_run (B := B_i_wordBytes_3) l.length (fun i => (wOut (l.take i), l, (l.length : Int), (i : Int), ())) (wOut l, ())
    (fun i hi => by
      have hx := List.getElem?_eq_getElem hi
      unfold B_i_wordBytes_3
      simp only [val_br, val_ob, val_leaf, lt_dec hi, br_t, idx_at hx, ob_s]
      rw [i_PutN4 _ _ (by rw [wOut_len]; simp; omega), ob_s, w64 (by omega), ← snoc_take hx, wOut_snoc]
      rfl)
    (by unfold B_i_wordBytes_3; simp only [val_br, val_leaf, ge_dec, br_f, List.take_length])
  unfold V_i_wordBytes T_i_wordBytes
  simp only [val_ob, val_leaf]
  rw [show iterO B_i_wordBytes_3 ([], l, (l.length : Int), (0 : Int), ()) = _ from hr]
  rfl
theorem s_l2Out (l : List YI) (h : l.length = 8) : V_s_l2Out (l, ()) = some (wOut l, ()) := by
  have hr := loop_run (B := B_s_l2Out_3) 8 (fun i => (l, wOut (l.take i), (i : Int), ())) (wOut l, ())
    (fun i hi => by
      have hx := List.getElem?_eq_getElem (show i < l.length by omega)
      unfold B_s_l2Out_3
      simp only [val_br, val_ob, val_leaf]
      rw [dec_t (by omega), br_t, idx_at hx, ob_s, s_PutN4 _ _ (by rw [wOut_len]; simp; omega), ob_s, w64 (by omega), ← snoc_take hx, wOut_snoc]
      rfl)
    (by unfold B_s_l2Out_3; simp only [val_br, val_leaf]; rw [dec_f (by omega), br_f, ← h, List.take_length])
  unfold V_s_l2Out T_s_l2Out
  simp only [val_ob, val_leaf]
  rw [show iterO B_s_l2Out_3 (l, [], (0 : Int), ()) = _ from hr]
  rfl
def startL : List YI := [((1779033703 : Int), ()), ((3144134277 : Int), ()), ((1013904242 : Int), ()), ((2773480762 : Int), ()), ((1359893119 : Int), ()), ((2600822924 : Int), ()), ((528734635 : Int), ()), ((1541459225 : Int), ())]
theorem startL_ok : wordsB startL = true := by decide
def hashOk (h : YHash) : Bool := (wordsB h.1 && ((h.1.length : Int) == 8)) && (inR h.2.2.1 0 1048576 && ((h.2.2.1 % 64) == (h.2.1.length : Int)))
theorem i_HashOk (h : YHash) (hl : h.1.length ≤ 4294967296) : V_i_HashOk h = some (hashOk h, ()) := by
  unfold V_i_HashOk T_i_HashOk hashOk
  simp only [val_br, val_chk, val_ob, val_leaf, i_within, ob_s]
  rw [i_areWords _ _ hl, ob_s]
  cases (wordsB h.1 && ((h.1.length : Int) == 8)) with
  | false => rfl
  | true =>
    cases hn : inR h.2.2.1 0 1048576 with
    | false => rfl
    | true =>
      have := inR_iff.1 hn
      simp only [br_t]
      rw [dec_t (by omega), chk_t]
      simp
def sha (b : List YB) : List YB := if b.length ≤ 1048576 then wOut (cAll startL (b ++ padL b.length)).1 else []
theorem sha_len (b : List YB) : (sha b).length = 32 ∨ (sha b).length = 0 := by
  unfold sha
  split
  · left
    rw [wOut_len, (cAll_ok _ startL _ (Nat.le_refl _) (by decide)).2.1]; rfl
  · right; rfl
theorem s_Sha (b : List YB) : V_s_Sha (b, ()) = some (sha b, ()) := by
  unfold V_s_Sha T_s_Sha sha
  simp only [val_br, val_chk, val_ob, val_leaf, List.nil_append, List.length_nil, Nat.zero_add]
  by_cases h : b.length ≤ 1048576
  · have hp := padL_len b.length
    have hk : padK b.length = (64 - (b.length + 9) % 64) % 64 := rfl
    have hl := s_shaLoop (b ++ padL b.length) (by simp; omega) (b ++ padL b.length).length 0 startL (by omega) (by omega) (by simp; omega) (by decide)
    rw [List.drop_zero] at hl
    rw [dec_f (by omega), br_f, dec_t (by omega), chk_t, s_Pad _ h, ob_s, dec_t (by simp; omega), chk_t, show V_s_Start = some (startL, ()) from rfl, ob_s]
    rw [show iterO B_s_Sha_6 (b ++ padL b.length, startL, (0 : Int), ()) = _ from hl, ob_s]
    rw [s_l2Out _ ((cAll_ok _ startL _ (Nat.le_refl _) (by decide)).2.1), if_pos h]
    rfl
  · rw [dec_t (by omega), br_t, if_neg h]
theorem i_Sha (b : List YB) (hb : b.length ≤ 4294967296) : V_i_Sha (b, ()) = some (sha b, ()) := by
  unfold V_i_Sha T_i_Sha sha
  simp only [val_br, val_ob, val_leaf]
  by_cases h : b.length ≤ 1048576
  · have hp := padL_len b.length
    have hk : padK b.length = (64 - (b.length + 9) % 64) % 64 := rfl
    have hc := cAll_ok _ startL b (Nat.le_refl _) (by decide)
    have h8 : startL.length = 8 := rfl
    have hc21 := hc.2.1
    have hc1 := hc.1
    have e1 : V_i_HashAdd (startL, [], 0, ()) (b, ()) = some ((cAll startL b).1, (cAll startL b).2, (b.length : Int), ()) := by
      unfold V_i_HashAdd T_i_HashAdd
      simp only [val_br, val_chk, val_ob, val_leaf, List.nil_append, List.length_nil, Nat.zero_add]
      rw [i_HashOk _ (by decide), ob_s, show hashOk (startL, [], 0, ()) = true by decide]
      simp only [Bool.not_true, br_f]
      rw [w64 (n := 1048576 - 0) (by omega), dec_f (by omega), br_f, i_joined _ (by simp [cat]; omega) (by simp), ob_s, show cat [([], ()), (b, ())] = b by simp [cat], i_compressAll _ _ (by decide) (by omega), ob_s]
      simp only
      rw [dec_t (by omega), chk_t, i_clone _ (by dsimp only; omega), ob_s, w64 (by omega)]
      simp
    have e2 : V_i_HashEnd ((cAll startL b).1, (cAll startL b).2, (b.length : Int), ()) = some (wOut (cAll startL (b ++ padL b.length)).1, ()) := by
      unfold V_i_HashEnd T_i_HashEnd
      simp only [val_br, val_chk, val_ob, val_leaf]
      rw [i_HashOk _ (by dsimp only; rw [hc.2.1]; decide), ob_s]
      have ok : hashOk ((cAll startL b).1, (cAll startL b).2, (b.length : Int), ()) = true := by
        unfold hashOk
        simp only [hc.2.2 startL_ok, hc.2.1, Bool.and_eq_true]
        refine ⟨by decide, inR_iff.2 (by omega), ?_⟩
        rw [hc.1]; simp
      rw [ok]
      simp only [Bool.not_true, br_f]
      rw [i_Pad _ h, ob_s, i_joined _ (by simp [cat]; omega) (by simp), ob_s, show cat [((cAll startL b).2, ()), (padL b.length, ())] = (cAll startL b).2 ++ padL b.length by simp [cat], i_compressAll _ _ (by rw [hc.2.1]; decide) (by simp; omega), ob_s, ← cAll_app _ _ _ _ (Nat.le_refl _)]
      simp only
      rw [i_wordBytes _ (by rw [(cAll_ok _ startL _ (Nat.le_refl _) (by decide)).2.1]; decide)]
      rfl
    rw [dec_f (by omega), br_f, show V_i_HashNew = some (startL, [], 0, ()) from rfl, ob_s, e1, ob_s, e2, ob_s, if_pos h]
  · rw [dec_t (by omega), br_t, if_neg h]
end
end Go.Proofs.YtdlcjpjflckdlaaGreat

/-
  That the program and the reference answer alike, in plain terms, and that the laws answer true.
-/
import Derived.Test.YtdlcjpjflckdlaaGreatL7
namespace Go.Proofs.YtdlcjpjflckdlaaGreat
open Go.RowKit
set_option linter.unusedVariables false
set_option linter.unusedSimpArgs false
set_option maxHeartbeats 4000000
noncomputable section
/-! ## Compression -/
def kL : List YI := roundL.map fun x => (x, ())
theorem s_l2K : V_s_l2K = some (kL, ()) := rfl
theorem i_RoundWord (n : YI) : V_i_RoundWord n = some (roundW n.1, ()) := rfl
theorem kL_at (i : Nat) (h : i < 64) : idx kL (i : Int) = some (roundW (i : Int), ()) := by
  rw [idx_n]
  unfold kL roundW
  rw [List.getElem?_map, if_pos (by omega), Int.toNat_natCast]
  have : i < roundL.length := by simpa [roundL] using h
  rw [List.getElem?_eq_getElem this]; rfl
theorem s_l2Words (l : List YI) (hl : l.length ≤ 4294967296) : V_s_l2Words (l, ()) = some (wordsB l && ((l.length : Int) == 8), ()) := by
  have h := loop_none (B := B_s_l2Words_2) l (fun i => (l, (i : Int), ())) (fun _ e => !inR e.1 0 4294967295) (false, ()) (l, ())
    (fun i x hi hx => by
      unfold B_s_l2Words_2
      simp (disch := omega) only [val_br, val_ob, val_leaf, lt_dec hi, br_t, idx_at hx, ob_s, s_l1In, w64]
      rfl)
    (by unfold B_s_l2Words_2; simp only [val_br, val_ob, val_leaf, ge_dec, br_f])
  unfold V_s_l2Words T_s_l2Words
  simp only [val_ob, val_sm, val_leaf]
  rw [show ((0 : Int)) = ((0 : Nat) : Int) from rfl, h]
  unfold wordsB
  cases noneB (fun _ (e : YI) => !inR e.1 0 4294967295) l <;> rfl
theorem mask_comm (x : BitVec IntKind.i64.bits) : BitVec.ofInt (IntKind.i64.bits) (4294967295 : Int) ^^^ x = x ^^^ BitVec.ofInt (IntKind.i64.bits) (4294967295 : Int) := BitVec.xor_comm _ _
theorem wordsB_iff {l : List YI} : wordsB l = true ↔ ∀ (j : Nat) (x : YI), l[j]? = some x → 0 ≤ x.1 ∧ x.1 ≤ 4294967295 := by
  unfold wordsB
  rw [noneB_t]
  simp only [Bool.not_eq_false', inR_iff]
theorem ok_rounds (h out w : List YI) (hw : w.length = 64) (a b c d e f g z : Int) :
    ∃ a' b' c' d' e' f' g' z', iterO B_i_Compress_7 (h, out, w, a, b, c, d, e, f, g, z, (0 : Int), ()) = some (h, out, a', b', c', d', e', f', g', z', ()) ∧
      iterO B_s_Compress_8 (h, out, kL, w, a, b, c, d, e, f, g, z, (0 : Int), ()) = some (h, out, a', b', c', d', e', f', g', z', ()) := by
  obtain ⟨o1, o2, h1, h2, hq⟩ := lockstep (B1 := B_i_Compress_7) (B2 := B_s_Compress_8)
    (fun i d1 d2 => ∃ a b c d e f g z : Int, d1 = (h, out, w, a, b, c, d, e, f, g, z, (i : Int), ()) ∧ d2 = (h, out, kL, w, a, b, c, d, e, f, g, z, (i : Int), ()))
    (fun o1 o2 => o1 = o2 ∧ ∃ a b c d e f g z : Int, o1 = (h, out, a, b, c, d, e, f, g, z, ())) 64
    (by
      rintro i d1 d2 hi ⟨a, b, c, d, e, f, g, z, rfl, rfl⟩
      left
      obtain ⟨x, hx⟩ : ∃ x, w[i]? = some x := ⟨_, List.getElem?_eq_getElem (by omega)⟩
      have hk := kL_at i hi
      unfold B_i_Compress_7 B_s_Compress_8
      simp only [val_br, val_ob, val_leaf, val_chk]
      rw [dec_t (by omega), br_t, br_t]
      simp (disch := decide) only [i_Rot, s_Rot, ob_s, i_RoundWord, idx_at hx, hk, i_Add32, mask_comm]
      rw [w64 (n := (i : Int) + 1) (by omega)]
      refine ⟨_, _, rfl, rfl, _, _, _, _, _, _, _, _, rfl, ?_⟩
      simp only [Prod.mk.injEq, true_and, and_true]
      exact ⟨m32_add2 _ _, m32_addr _ _, by omega⟩)
    (by
      rintro d1 d2 ⟨a, b, c, d, e, f, g, z, rfl, rfl⟩
      unfold B_i_Compress_7 B_s_Compress_8
      simp only [val_br, val_ob, val_leaf, val_chk]
      exact ⟨_, _, rfl, rfl, rfl, _, _, _, _, _, _, _, _, rfl⟩)
    (d1 := (h, out, w, a, b, c, d, e, f, g, z, (0 : Int), ())) (d2 := (h, out, kL, w, a, b, c, d, e, f, g, z, (0 : Int), ())) ⟨a, b, c, d, e, f, g, z, rfl, rfl⟩
  obtain ⟨rfl, a', b', c', d', e', f', g', z', rfl⟩ := hq
  exact ⟨_, _, _, _, _, _, _, _, h1, h2⟩
theorem ok_last (h l : List YI) (hh : h.length = 8) (hl : l.length = 8) : ∃ r : List YI, r.length = 8 ∧ wordsB r = true ∧ iterO B_i_Compress_16 (h, h, l, (l.length : Int), (0 : Int), ()) = some (r, ()) ∧ iterO B_s_Compress_22 (h, h, l, (0 : Int), ()) = some (r, ()) := by
  obtain ⟨o1, o2, h1, h2, hq⟩ := lockstep (B1 := B_i_Compress_16) (B2 := B_s_Compress_22)
    (fun i d1 d2 => ∃ out : List YI, out.length = 8 ∧ (∀ j x, j < i → out[j]? = some x → 0 ≤ x.1 ∧ x.1 ≤ 4294967295) ∧ d1 = (h, out, l, (l.length : Int), (i : Int), ()) ∧ d2 = (h, out, l, (i : Int), ()))
    (fun o1 o2 => o1 = o2 ∧ o1.1.length = 8 ∧ wordsB o1.1 = true) 8
    (by
      rintro i d1 d2 hi ⟨out, ho, hb, rfl, rfl⟩
      left
      obtain ⟨x, hx⟩ : ∃ x, h[i]? = some x := ⟨_, List.getElem?_eq_getElem (by omega)⟩
      obtain ⟨y, hy⟩ : ∃ y, l[i]? = some y := ⟨_, List.getElem?_eq_getElem (by omega)⟩
      obtain ⟨q, hq⟩ : ∃ q, out[i]? = some q := ⟨_, List.getElem?_eq_getElem (by omega)⟩
      unfold B_i_Compress_16 B_s_Compress_22
      simp only [val_br, val_ob, val_leaf, val_chk]
      rw [dec_t (by omega), dec_t (by omega), br_t, br_t]
      simp only [idx_at hx, idx_at hy, idx_at hq, ob_s, i_Add32, Int.toNat_natCast]
      rw [w64 (n := (i : Int) + 1) (by omega)]
      refine ⟨_, _, rfl, rfl, out.set i (m32 (IntKind.i64.wrap (x.1 + y.1)), ()), by simp [ho], fun j v hj hv => ?_, rfl, rfl⟩
      rw [List.getElem?_set] at hv
      split at hv
      · rename_i e
        subst e
        split at hv
        · simp at hv; subst hv; exact m32_w _
        · cases hv
      · exact hb j v (by omega) hv)
    (by
      rintro d1 d2 ⟨out, ho, hb, rfl, rfl⟩
      unfold B_i_Compress_16 B_s_Compress_22
      simp only [val_br, val_ob, val_leaf, val_chk]
      rw [dec_f (by omega), br_f]
      refine ⟨_, _, rfl, rfl, rfl, ho, ?_⟩
      rw [wordsB_iff]
      intro j x hx
      exact hb j x (by have := (List.getElem?_eq_some_iff.1 hx).1; dsimp only at this; omega) hx)
    (d1 := (h, h, l, (l.length : Int), (0 : Int), ())) (d2 := (h, h, l, (0 : Int), ())) ⟨h, hh, fun j x hj => by omega, rfl, rfl⟩
  obtain ⟨rfl, hq1, hq2⟩ := hq
  exact ⟨o1.1, hq1, hq2, h1, h2⟩
theorem ok_Compress (h : List YI) (b : List YB) (hh : h.length ≤ 1073741824) (hb : b.length ≤ 4294967296) :
    ∃ r, V_i_Compress (h, ()) (b, ()) = some (r, ()) ∧ V_s_Compress (h, ()) (b, ()) = some (r, ()) ∧ r.length = h.length ∧ (wordsB h = true → wordsB r = true) := by
  obtain ⟨w, hw1, hw2, hw3⟩ := ok_Schedule b hb
  unfold V_i_Compress T_i_Compress V_s_Compress T_s_Compress
  simp only [val_br, val_ob, val_leaf, val_chk, List.nil_append, List.length_nil, Nat.zero_add]
  rw [dec_t (by omega), chk_t, chk_t, i_areWords _ _ (by omega), s_l2Words _ (by omega), ob_s, ob_s]
  cases hwb : (wordsB h && ((h.length : Int) == 8)) with
  | false => exact ⟨h, rfl, rfl, rfl, id⟩
  | true =>
    have hlen : h.length = 8 := by simp at hwb; omega
    have hwd : wordsB h = true := by simp at hwb; exact hwb.1
    simp only [Bool.not_true, br_f]
    by_cases hb64 : b.length = 64
    · rw [br_ff (by simp [hb64]), br_ff (by simp [hb64]), hw1, hw2, s_l2K]
      simp only [ob_s]
      match h, hlen with
      | [x0, x1, x2, x3, x4, x5, x6, x7], _ =>
        simp only [show idx [x0, x1, x2, x3, x4, x5, x6, x7] (0 : Int) = some x0 from rfl, show idx [x0, x1, x2, x3, x4, x5, x6, x7] (1 : Int) = some x1 from rfl, show idx [x0, x1, x2, x3, x4, x5, x6, x7] (2 : Int) = some x2 from rfl, show idx [x0, x1, x2, x3, x4, x5, x6, x7] (3 : Int) = some x3 from rfl,
          show idx [x0, x1, x2, x3, x4, x5, x6, x7] (4 : Int) = some x4 from rfl, show idx [x0, x1, x2, x3, x4, x5, x6, x7] (5 : Int) = some x5 from rfl, show idx [x0, x1, x2, x3, x4, x5, x6, x7] (6 : Int) = some x6 from rfl, show idx [x0, x1, x2, x3, x4, x5, x6, x7] (7 : Int) = some x7 from rfl, ob_s]
        obtain ⟨a', b', c', d', e', f', g', z', q1, q2⟩ := ok_rounds [x0, x1, x2, x3, x4, x5, x6, x7] [x0, x1, x2, x3, x4, x5, x6, x7] w (hw3 hb64) x0.1 x1.1 x2.1 x3.1 x4.1 x5.1 x6.1 x7.1
        rw [q1, q2]
        simp only [ob_s]
        obtain ⟨r, r1, r2, r3, r4⟩ := ok_last [x0, x1, x2, x3, x4, x5, x6, x7] [(a', ()), (b', ()), (c', ()), (d', ()), (e', ()), (f', ()), (g', ()), (z', ())] rfl rfl
        rw [r3, r4]
        exact ⟨r, rfl, rfl, r1, fun _ => r2⟩
    · have h' : ¬ ((b.length : Int) = 64) := by omega
      rw [br_tt (by simpa using h'), br_tt (by simpa using h')]
      exact ⟨h, rfl, rfl, rfl, id⟩
def compress (h : List YI) (b : List YB) : List YI := match V_i_Compress (h, ()) (b, ()) with | some r => r.1 | none => []
theorem i_Compress (h : List YI) (b : List YB) (hh : h.length ≤ 1073741824) (hb : b.length ≤ 4294967296) : V_i_Compress (h, ()) (b, ()) = some (compress h b, ()) := by
  obtain ⟨r, h1, h2, _⟩ := ok_Compress h b hh hb
  unfold compress; rw [h1]
theorem s_Compress (h : List YI) (b : List YB) (hh : h.length ≤ 1073741824) (hb : b.length ≤ 4294967296) : V_s_Compress (h, ()) (b, ()) = some (compress h b, ()) := by
  obtain ⟨r, h1, h2, _⟩ := ok_Compress h b hh hb
  unfold compress; rw [h1, h2]
theorem compress_len (h : List YI) (b : List YB) (hh : h.length ≤ 1073741824) (hb : b.length ≤ 4294967296) : (compress h b).length = h.length ∧ (wordsB h = true → wordsB (compress h b) = true) := by
  obtain ⟨r, h1, h2, h3, h4⟩ := ok_Compress h b hh hb
  unfold compress; rw [h1]; exact ⟨h3, h4⟩
end
end Go.Proofs.YtdlcjpjflckdlaaGreat

/-
  That the program and the reference answer alike, in plain terms, and that the laws answer true.
-/
import Derived.Test.YtndbndcibmfgdaaW
namespace Go.Proofs.Ytndbndcibmfgdaa
open Go.RowKit
set_option linter.unusedVariables false
set_option linter.unusedSimpArgs false
set_option maxHeartbeats 4000000
noncomputable section
theorem idx_at {α : Type} {l : List α} {i : Nat} {x : α} (h : l[i]? = some x) : idx l (i : Int) = some x := (idx_n l i).trans h
theorem idx_set {α : Type} {l : List α} {i : Nat} {x : α} (h : i < l.length) : idx (l.set i x) (i : Int) = some x := by rw [idx_n, List.getElem?_set_self h]
theorem lt_dec {i n : Nat} (h : i < n) : decide ((i : Int) < (n : Int)) = true := by simpa using h
theorem ge_dec (n : Nat) : decide ((n : Int) < (n : Int)) = false := by simp
theorem bne_self {α : Type} [BEq α] [LawfulBEq α] (a : α) : (a != a) = false := by simp
theorem nn_dec {k : Int} (h : 0 ≤ k) : decide (k < 0) = false := by simpa using h
theorem dec_t {p : Prop} [Decidable p] (h : p) : decide p = true := by simpa using h
theorem dec_f {p : Prop} [Decidable p] (h : ¬ p) : decide p = false := by simpa using h
theorem len_le_sumN {E : Type} {w : E → Nat} (h : ∀ x, 1 ≤ w x) : ∀ l : List E, l.length ≤ sumN w l
  | [] => by simp [sumN]
  | x :: r => by simp only [sumN, List.length_cons]; have := h x; have := len_le_sumN h r; omega
theorem br_ff {ρ : Type} {b : Bool} {x y : Option ρ} (h : b = false) : br b x y = y := by subst h; rfl
theorem br_tt {ρ : Type} {b : Bool} {x y : Option ρ} (h : b = true) : br b x y = x := by subst h; rfl
theorem ml {n : Nat} (h : n ≤ maxLen) : n ≤ 9223372036854775807 := by unfold maxLen at h; omega
def w_B (d : YB) : Nat := 1
def m_B (d : YB) (k : Int) : YB := (IntKind.u8.wrap k, ())
def w_I (d : YI) : Nat := 1
def m_I (d : YI) (k : Int) : YI := (k, ())
def need_Wire (d : YWire) : Nat := d.2.2.2.2.1.length
def lo_Wire (d : YWire) : Prop := d.2.2.2.2.1.length ≤ 9223372036854775807
def w_Wire (d : YWire) : Nat := 1 + 1 + 1 + 1 + sumN w_B d.2.2.2.2.1
def m_Wire (d : YWire) (k : Int) : YWire := (k, k + 1, k + 1 + 1, k + 1 + 1 + 1, mkL m_B w_B d.2.2.2.2.1 (k + 1 + 1 + 1 + 1), ())
theorem w_le_Wire (d : YWire) : w_Wire d ≤ 32 * need_Wire d + 32 := by
  have h4 := sumN_le1 (f := w_B) (fun _ => by simp [w_B]) d.2.2.2.2.1
  simp only [w_Wire, need_Wire]; omega
def need_Addr (d : YAddr) : Nat := 0
def lo_Addr (d : YAddr) : Prop := True
def need_Win (d : YWin) : Nat := d.2.1.length
def lo_Win (d : YWin) : Prop := d.2.1.length ≤ 9223372036854775807
def wt_Win (d : YWin) : Nat := sumN w_I d.2.1
def need_Ep (d : YEp) : Nat := d.2.1.length + d.2.2.2.2.1.length
def lo_Ep (d : YEp) : Prop := d.2.1.length ≤ 9223372036854775807 ∧ d.2.2.2.2.1.length ≤ 9223372036854775807
def wt_Ep (d : YEp) : Nat := sumN w_B d.2.1 + sumN w_I d.2.2.2.2.1
def need_Chan (d : YChan) : Nat := d.2.1.length + d.2.2.2.1.length + d.2.2.2.2.2.2.1.length + d.2.2.2.2.2.2.2.2.1.length + d.2.2.2.2.2.2.2.2.2.2.2.1.length + d.2.2.2.2.2.2.2.2.2.2.2.2.2.2.1.length
def lo_Chan (d : YChan) : Prop := d.2.1.length ≤ 9223372036854775807 ∧ d.2.2.2.1.length ≤ 9223372036854775807 ∧ d.2.2.2.2.2.2.1.length ≤ 9223372036854775807 ∧ d.2.2.2.2.2.2.2.2.1.length ≤ 9223372036854775807 ∧ d.2.2.2.2.2.2.2.2.2.2.2.1.length ≤ 9223372036854775807 ∧ d.2.2.2.2.2.2.2.2.2.2.2.2.2.2.1.length ≤ 9223372036854775807
def wt_Chan (d : YChan) : Nat := sumN w_B d.2.1 + sumN w_B d.2.2.2.1 + sumN w_I d.2.2.2.2.2.2.1 + sumN w_B d.2.2.2.2.2.2.2.2.1 + sumN w_I d.2.2.2.2.2.2.2.2.2.2.2.1 + sumN w_B d.2.2.2.2.2.2.2.2.2.2.2.2.2.2.1
def need_Cand (d : YCand) : Nat := d.2.2.1.length
def lo_Cand (d : YCand) : Prop := d.2.2.1.length ≤ 9223372036854775807
def w_Cand (d : YCand) : Nat := 1 + 1 + sumN w_B d.2.2.1 + 1
def m_Cand (d : YCand) (k : Int) : YCand := (k, k + 1, mkL m_B w_B d.2.2.1 (k + 1 + 1), k + 1 + 1 + (sumN w_B d.2.2.1 : Nat), ())
theorem w_le_Cand (d : YCand) : w_Cand d ≤ 32 * need_Cand d + 32 := by
  have h2 := sumN_le1 (f := w_B) (fun _ => by simp [w_B]) d.2.2.1
  simp only [w_Cand, need_Cand]; omega
def need_Paths (d : YPaths) : Nat := d.2.2.1.length + sumN need_Cand d.2.2.1
def lo_Paths (d : YPaths) : Prop := d.2.2.1.length ≤ 9223372036854775807 ∧ (∀ (i : Nat) x, d.2.2.1[i]? = some x → lo_Cand x)
def wt_Paths (d : YPaths) : Nat := sumN w_Cand d.2.2.1
def need_Sess (d : YSess) : Nat := d.2.1.length + d.2.2.1.length + d.2.2.2.2.1.length + d.2.2.2.2.2.2.1.length + d.2.2.2.2.2.2.2.2.2.1.length + d.2.2.2.2.2.2.2.2.2.2.2.1.length + d.2.2.2.2.2.2.2.2.2.2.2.2.2.2.1.length + d.2.2.2.2.2.2.2.2.2.2.2.2.2.2.2.2.2.1.length + d.2.2.2.2.2.2.2.2.2.2.2.2.2.2.2.2.2.2.2.2.1.length + sumN need_Cand d.2.2.2.2.2.2.2.2.2.2.2.2.2.2.2.2.2.2.2.2.1
def lo_Sess (d : YSess) : Prop := d.2.1.length ≤ 9223372036854775807 ∧ d.2.2.1.length ≤ 9223372036854775807 ∧ d.2.2.2.2.1.length ≤ 9223372036854775807 ∧ d.2.2.2.2.2.2.1.length ≤ 9223372036854775807 ∧ d.2.2.2.2.2.2.2.2.2.1.length ≤ 9223372036854775807 ∧ d.2.2.2.2.2.2.2.2.2.2.2.1.length ≤ 9223372036854775807 ∧ d.2.2.2.2.2.2.2.2.2.2.2.2.2.2.1.length ≤ 9223372036854775807 ∧ d.2.2.2.2.2.2.2.2.2.2.2.2.2.2.2.2.2.1.length ≤ 9223372036854775807 ∧ d.2.2.2.2.2.2.2.2.2.2.2.2.2.2.2.2.2.2.2.2.1.length ≤ 9223372036854775807 ∧ (∀ (i : Nat) x, d.2.2.2.2.2.2.2.2.2.2.2.2.2.2.2.2.2.2.2.2.1[i]? = some x → lo_Cand x)
def wt_Sess (d : YSess) : Nat := sumN w_B d.2.1 + sumN w_B d.2.2.1 + sumN w_B d.2.2.2.2.1 + sumN w_B d.2.2.2.2.2.2.1 + sumN w_I d.2.2.2.2.2.2.2.2.2.1 + sumN w_B d.2.2.2.2.2.2.2.2.2.2.2.1 + sumN w_I d.2.2.2.2.2.2.2.2.2.2.2.2.2.2.1 + sumN w_B d.2.2.2.2.2.2.2.2.2.2.2.2.2.2.2.2.2.1 + sumN w_Cand d.2.2.2.2.2.2.2.2.2.2.2.2.2.2.2.2.2.2.2.2.1
theorem wt_le_Sess (d : YSess) : wt_Sess d ≤ 32 * need_Sess d + 32 := by
  have h1 := sumN_le1 (f := w_B) (fun _ => by simp [w_B]) d.2.1
  have h2 := sumN_le1 (f := w_B) (fun _ => by simp [w_B]) d.2.2.1
  have h4 := sumN_le1 (f := w_B) (fun _ => by simp [w_B]) d.2.2.2.2.1
  have h6 := sumN_le1 (f := w_B) (fun _ => by simp [w_B]) d.2.2.2.2.2.2.1
  have h9 := sumN_le1 (f := w_I) (fun _ => by simp [w_I]) d.2.2.2.2.2.2.2.2.2.1
  have h11 := sumN_le1 (f := w_B) (fun _ => by simp [w_B]) d.2.2.2.2.2.2.2.2.2.2.2.1
  have h14 := sumN_le1 (f := w_I) (fun _ => by simp [w_I]) d.2.2.2.2.2.2.2.2.2.2.2.2.2.2.1
  have h17 := sumN_le1 (f := w_B) (fun _ => by simp [w_B]) d.2.2.2.2.2.2.2.2.2.2.2.2.2.2.2.2.2.1
  have h20 := sumN_le (f := w_Cand) (g := need_Cand) w_le_Cand d.2.2.2.2.2.2.2.2.2.2.2.2.2.2.2.2.2.2.2.2.1
  simp only [wt_Sess, need_Sess]; omega
theorem sz_ByteS (d : List YB × Unit) (n : Int) (h0 : -1 ≤ n) (h1 : n ≤ 1099511627776) (hl : d.1.length ≤ 9223372036854775807) : V_l_szByteS d (n, ()) = some (szR (d.1.length) n, ()) := by
  unfold V_l_szByteS T_l_szByteS
  simp only [val_br, val_leaf]
  simp (disch := omega) only [w64]
  unfold szR
  rw [br_i]
  by_cases h : (d.1.length : Int) ≤ n
  · simp only [decide_eq_true_eq, if_neg (show ¬ (n - (d.1.length : Int) < 0) by omega), if_pos h]
  · simp only [decide_eq_true_eq, if_pos (show n - (d.1.length : Int) < 0 by omega), if_neg h]
theorem to_ByteS (d : List YB × Unit) (h : d.1.length ≤ 4294967296) : V_l_toByteS d = some d := by
  have e := fun (m : List YB) (hm : m.length = d.1.length) => loop_to (B := B_l_toByteS_3) (m := m) (l := d.1) (ok := fun _ => True) (fun m i x y hx hi hy => by
    unfold B_l_toByteS_3
    simp only [val_br, val_ob, val_leaf, val_chk, val_sm, lt_dec hi, br_t, idx_at hx, idx_at hy, ob_s, Int.toNat_natCast]
    rw [w64 (by omega)]) (fun m => by
    unfold B_l_toByteS_3
    simp only [val_br, val_ob, val_leaf, val_chk, val_sm, ge_dec, br_f]) hm
  unfold V_l_toByteS T_l_toByteS
  simp only [val_br, val_ob, val_leaf, val_chk, val_sm, decide_true]
  rw [dec_t (by omega), dec_t (by omega), chk_t, chk_t, chk_t, e _ (by simp)]
  rfl
theorem eq_ByteS (d : List YB × Unit) (h : d.1.length ≤ 4294967296) : V_l_eqByteS d d = some (true, ()) := by
  have e := loop_eq (B := B_l_eqByteS_4) (l := d.1) (fun i x hx hi => by
    unfold B_l_eqByteS_4
    simp only [val_br, val_ob, val_leaf, val_chk, val_sm, lt_dec hi, br_t, idx_at hx, ob_s, bne_self, br_f]
    rw [w64 (by omega)]) (by
    unfold B_l_eqByteS_4
    simp only [val_br, val_ob, val_leaf, val_chk, val_sm, ge_dec, br_f])
  unfold V_l_eqByteS T_l_eqByteS
  simp only [val_br, val_ob, val_leaf, val_chk, val_sm, bne_self, br_f]
  rw [e]
  rfl
theorem mark_ByteS (d : List YB × Unit) (k : Int) (h0 : 0 ≤ k) (h1 : k + (sumN w_B d.1 : Nat) ≤ 4611686018427387904) : V_l_markByteS d (k, ()) = some ((k + (sumN w_B d.1 : Nat), ()), (mkL m_B w_B d.1 k, ())) := by
  have hl := len_le_sumN (w := w_B) (fun x => by simp only [w_B]; omega) d.1
  have e := loop_mark (B := B_l_markByteS_2) m_B w_B (l := d.1) (fun t k i x ht hx hlen h0 h1 hi => by
    have hit : i < t.length := by omega
    have hk : k + ((w_B x : Nat) : Int) = k + 1 := by simp only [w_B]; all_goals omega
    rw [hk]
    unfold B_l_markByteS_2
    simp (maxSteps := 4000000) only [val_br, val_ob, val_leaf, val_chk, val_sm, lt_dec hit, br_t, idx_at ht, ob_s, Int.toNat_natCast]
    simp only [w_B] at *
    simp (maxSteps := 4000000) (disch := first | omega | (dsimp only; omega) | (simp only [List.length_set]; omega)) only [w64, idx_set, List.set_set, ob_s, Int.toNat_natCast, chk_t, dec_t]
    rfl) (fun t k hlen => by
    unfold B_l_markByteS_2
    exact (val_br _ _ _).trans ((br_ff (by simp [hlen])).trans rfl)) h0 h1
  unfold V_l_markByteS T_l_markByteS
  simp only [val_br, val_ob, val_leaf, val_chk, val_sm]
  rw [e]
  rfl
theorem held_ByteS (d : List YB) (k : Int) (h0 : 0 ≤ k) (h1 : k + (sumN w_B d : Nat) ≤ 4611686018427387904) : V_l_heldByteS (mkL m_B w_B d k, ()) (k, ()) = some (k + (sumN w_B d : Nat), ()) := by
  have hl := len_le_sumN (w := w_B) (fun x => by simp only [w_B]; omega) d
  have e := loop_held (B := B_l_heldByteS_2) m_B w_B (l := d) (k := k) (fun k i x ht hx h0 h1 hi => by
    have hk : k + ((w_B x : Nat) : Int) = k + 1 := by simp only [w_B]; all_goals omega
    rw [hk]
    unfold B_l_heldByteS_2
    simp only [val_br, val_ob, val_leaf, val_chk, val_sm, mkL_len, lt_dec hi, br_t, idx_at ht, ob_s, m_B, bne_self, br_f]
    simp only [w_B] at *
    simp (maxSteps := 4000000) (disch := first | omega | (dsimp only; omega)) only [w64, ob_s, bne_self, beq_self_eq_true, Bool.not_true, br_f, nn_dec, chk_t, dec_t]) (fun k => by
    unfold B_l_heldByteS_2
    simp only [val_br, val_ob, val_leaf, val_chk, val_sm, mkL_len, ge_dec, br_f]) h0 h1
  unfold V_l_heldByteS T_l_heldByteS
  simp only [val_br, val_ob, val_leaf, val_chk, val_sm]
  rw [e]
  rfl
theorem to_Addr (d : YAddr) : V_l_toAddr d = some d := by
  have hn : need_Addr d = 0 := rfl
  unfold V_l_toAddr T_l_toAddr
  simp only [val_br, val_ob, val_leaf, val_chk, val_sm]
  skip
  all_goals rfl
theorem eq_Addr (d : YAddr) : V_l_eqAddr d d = some (true, ()) := by
  have hn : need_Addr d = 0 := rfl
  unfold V_l_eqAddr T_l_eqAddr
  simp (disch := first | omega | (simp only [need_Addr]; omega)) only [val_br, val_ob, val_leaf, val_chk, val_sm, bne_self, beq_self_eq_true, br_f, ob_s, Bool.not_true, eq_ByteS]
theorem sz_Wire (d : YWire) (n : Int) (h0 : -1 ≤ n) (h1 : n ≤ 1099511627776) (hl : lo_Wire d) : V_l_szWire d (n, ()) = some (szR (need_Wire d) n, ()) := by
  unfold lo_Wire at hl
  skip
  unfold V_l_szWire T_l_szWire
  simp only [val_br, val_ob, val_leaf, val_chk, val_sm]
  simp (disch := first | omega | (dsimp only; omega) | exact szR_ge _ _ | exact szR_le (by omega) (by omega) | ((repeat' (first | assumption | apply And.intro)); done) | ((first | unfold lo_Wire | unfold lo_Addr); dsimp only; (repeat' (first | assumption | apply And.intro)); done)) only [sz_ByteS, ob_s, szR_szR]
  all_goals try simp (disch := first | omega | (simp only [need_Wire, need_Addr]; omega)) only [brsz]
  all_goals (first | rfl | (refine congrArg (fun t => some (szR t n, ())) ?_; simp only [need_Wire, need_Addr]; omega))
theorem to_Wire (d : YWire) (h : need_Wire d ≤ 4294967296) : V_l_toWire d = some d := by
  have hn : need_Wire d = d.2.2.2.2.1.length := rfl
  unfold V_l_toWire T_l_toWire
  simp only [val_br, val_ob, val_leaf, val_chk, val_sm]
  simp (disch := first | omega | (simp only [need_Wire, need_Addr]; omega)) only [to_ByteS, to_Addr, ob_s]
  all_goals rfl
theorem eq_Wire (d : YWire) (h : need_Wire d ≤ 4294967296) : V_l_eqWire d d = some (true, ()) := by
  have hn : need_Wire d = d.2.2.2.2.1.length := rfl
  unfold V_l_eqWire T_l_eqWire
  simp (disch := first | omega | (simp only [need_Wire, need_Addr]; omega)) only [val_br, val_ob, val_leaf, val_chk, val_sm, bne_self, beq_self_eq_true, br_f, ob_s, Bool.not_true, eq_ByteS, eq_Addr]
theorem sz_WireS (d : List YWire × Unit) (n : Int) (h0 : -1 ≤ n) (h1 : n ≤ 1099511627776) (hl : d.1.length ≤ 9223372036854775807 ∧ (∀ (i : Nat) x, d.1[i]? = some x → lo_Wire x)) : V_l_szWireS d (n, ()) = some (szR (d.1.length + sumN need_Wire d.1) n, ()) := by
  obtain ⟨hl1, hl2⟩ := hl
  unfold V_l_szWireS T_l_szWireS
  simp only [val_br, val_ob, val_leaf, val_chk, val_sm]
  rw [w64 (by omega)]
  by_cases h : (d.1.length : Int) ≤ n
  · rw [dec_f (by omega), br_f, loop_sz need_Wire (l := d.1) (fun n' i x hx hi h0' h1' => by
        have hlx := hl2 i x hx
        unfold B_l_szWireS_5
        simp only [val_br, val_ob, val_leaf, val_chk, val_sm, lt_dec hi, br_t, idx_at hx, ob_s]
        rw [sz_Wire x n' h0' h1' (by exact hlx), ob_s]
        rw [w64 (by omega)]) (fun n' => by
        unfold B_l_szWireS_5
        simp only [val_br, val_ob, val_leaf, val_chk, val_sm, ge_dec, br_f]) (by omega) (by omega), ← szR_szR]
    unfold szR
    rw [if_pos h]
  · rw [dec_t (by omega), br_t]
    unfold szR
    rw [if_neg (by omega)]
theorem to_WireS (d : List YWire × Unit) (h : d.1.length + sumN need_Wire d.1 ≤ 4294967296) : V_l_toWireS d = some d := by
  have e := fun (m : List YWire) (hm : m.length = d.1.length) => loop_to (B := B_l_toWireS_3) (m := m) (l := d.1) (ok := fun _ => True) (fun m i x y hx hi hy => by
    unfold B_l_toWireS_3
    simp only [val_br, val_ob, val_leaf, val_chk, val_sm, lt_dec hi, br_t, idx_at hx, idx_at hy, ob_s, Int.toNat_natCast]
    have hx2 := sumN_at (f := need_Wire) hx
    rw [to_Wire x (by first | omega | (simp only [need_Wire] at *; omega)), ob_s]
    try simp only [idx_at hy, ob_s, Int.toNat_natCast]
    rw [w64 (by omega)]) (fun m => by
    unfold B_l_toWireS_3
    simp only [val_br, val_ob, val_leaf, val_chk, val_sm, ge_dec, br_f]) hm
  unfold V_l_toWireS T_l_toWireS
  simp only [val_br, val_ob, val_leaf, val_chk, val_sm, decide_true]
  rw [dec_t (by omega), dec_t (by omega), chk_t, chk_t, chk_t, e _ (by simp)]
  rfl
theorem eq_WireS (d : List YWire × Unit) (h : d.1.length + sumN need_Wire d.1 ≤ 4294967296) : V_l_eqWireS d d = some (true, ()) := by
  have e := loop_eq (B := B_l_eqWireS_4) (l := d.1) (fun i x hx hi => by
    unfold B_l_eqWireS_4
    simp only [val_br, val_ob, val_leaf, val_chk, val_sm, lt_dec hi, br_t, idx_at hx, ob_s, bne_self, br_f]
    have hx2 := sumN_at (f := need_Wire) hx
    rw [eq_Wire x (by first | omega | (simp only [need_Wire] at *; omega)), ob_s]
    try simp only [Bool.not_true, br_f]
    rw [w64 (by omega)]) (by
    unfold B_l_eqWireS_4
    simp only [val_br, val_ob, val_leaf, val_chk, val_sm, ge_dec, br_f])
  unfold V_l_eqWireS T_l_eqWireS
  simp only [val_br, val_ob, val_leaf, val_chk, val_sm, bne_self, br_f]
  rw [e]
  rfl
theorem mark_WireS (d : List YWire × Unit) (k : Int) (h0 : 0 ≤ k) (h1 : k + (sumN w_Wire d.1 : Nat) ≤ 4611686018427387904) : V_l_markWireS d (k, ()) = some ((k + (sumN w_Wire d.1 : Nat), ()), (mkL m_Wire w_Wire d.1 k, ())) := by
  have hl := len_le_sumN (w := w_Wire) (fun x => by simp only [w_Wire]; omega) d.1
  have e := loop_mark (B := B_l_markWireS_2) m_Wire w_Wire (l := d.1) (fun t k i x ht hx hlen h0 h1 hi => by
    have hit : i < t.length := by omega
    have hw : w_Wire x = 1 + 1 + 1 + 1 + sumN w_B x.2.2.2.2.1 := rfl
    have hk : k + ((w_Wire x : Nat) : Int) = k + 1 + 1 + 1 + 1 + (sumN w_B x.2.2.2.2.1 : Nat) := by simp only [w_Wire]; all_goals omega
    rw [hk]
    unfold B_l_markWireS_2
    simp (maxSteps := 4000000) only [val_br, val_ob, val_leaf, val_chk, val_sm, lt_dec hit, br_t, idx_at ht, ob_s, Int.toNat_natCast]
    simp (maxSteps := 4000000) (disch := first | omega | (dsimp only; omega) | (simp only [List.length_set]; omega)) only [w64, idx_set, List.set_set, ob_s, Int.toNat_natCast, chk_t, dec_t, mark_ByteS]
    rfl) (fun t k hlen => by
    unfold B_l_markWireS_2
    exact (val_br _ _ _).trans ((br_ff (by simp [hlen])).trans rfl)) h0 h1
  unfold V_l_markWireS T_l_markWireS
  simp only [val_br, val_ob, val_leaf, val_chk, val_sm]
  rw [e]
  rfl
theorem held_WireS (d : List YWire) (k : Int) (h0 : 0 ≤ k) (h1 : k + (sumN w_Wire d : Nat) ≤ 4611686018427387904) : V_l_heldWireS (mkL m_Wire w_Wire d k, ()) (k, ()) = some (k + (sumN w_Wire d : Nat), ()) := by
  have hl := len_le_sumN (w := w_Wire) (fun x => by simp only [w_Wire]; omega) d
  have e := loop_held (B := B_l_heldWireS_2) m_Wire w_Wire (l := d) (k := k) (fun k i x ht hx h0 h1 hi => by
    have hk : k + ((w_Wire x : Nat) : Int) = k + 1 + 1 + 1 + 1 + (sumN w_B x.2.2.2.2.1 : Nat) := by simp only [w_Wire]; all_goals omega
    have hw : w_Wire x = 1 + 1 + 1 + 1 + sumN w_B x.2.2.2.2.1 := rfl
    rw [hk]
    unfold B_l_heldWireS_2
    simp only [val_br, val_ob, val_leaf, val_chk, val_sm, mkL_len, lt_dec hi, br_t, idx_at ht, ob_s, m_Wire, bne_self, br_f]
    simp (maxSteps := 4000000) (disch := first | omega | (dsimp only; omega)) only [w64, ob_s, bne_self, beq_self_eq_true, Bool.not_true, br_f, nn_dec, chk_t, dec_t, held_ByteS]) (fun k => by
    unfold B_l_heldWireS_2
    simp only [val_br, val_ob, val_leaf, val_chk, val_sm, mkL_len, ge_dec, br_f]) h0 h1
  unfold V_l_heldWireS T_l_heldWireS
  simp only [val_br, val_ob, val_leaf, val_chk, val_sm]
  rw [e]
  rfl
theorem sz_IntS (d : List YI × Unit) (n : Int) (h0 : -1 ≤ n) (h1 : n ≤ 1099511627776) (hl : d.1.length ≤ 9223372036854775807) : V_l_szIntS d (n, ()) = some (szR (d.1.length) n, ()) := by
  unfold V_l_szIntS T_l_szIntS
  simp only [val_br, val_leaf]
  simp (disch := omega) only [w64]
  unfold szR
  rw [br_i]
  by_cases h : (d.1.length : Int) ≤ n
  · simp only [decide_eq_true_eq, if_neg (show ¬ (n - (d.1.length : Int) < 0) by omega), if_pos h]
  · simp only [decide_eq_true_eq, if_pos (show n - (d.1.length : Int) < 0 by omega), if_neg h]
theorem to_IntS (d : List YI × Unit) (h : d.1.length ≤ 4294967296) : V_l_toIntS d = some d := by
  have e := fun (m : List YI) (hm : m.length = d.1.length) => loop_to (B := B_l_toIntS_3) (m := m) (l := d.1) (ok := fun _ => True) (fun m i x y hx hi hy => by
    unfold B_l_toIntS_3
    simp only [val_br, val_ob, val_leaf, val_chk, val_sm, lt_dec hi, br_t, idx_at hx, idx_at hy, ob_s, Int.toNat_natCast]
    rw [w64 (by omega)]) (fun m => by
    unfold B_l_toIntS_3
    simp only [val_br, val_ob, val_leaf, val_chk, val_sm, ge_dec, br_f]) hm
  unfold V_l_toIntS T_l_toIntS
  simp only [val_br, val_ob, val_leaf, val_chk, val_sm, decide_true]
  rw [dec_t (by omega), dec_t (by omega), chk_t, chk_t, chk_t, e _ (by simp)]
  rfl
theorem eq_IntS (d : List YI × Unit) (h : d.1.length ≤ 4294967296) : V_l_eqIntS d d = some (true, ()) := by
  have e := loop_eq (B := B_l_eqIntS_4) (l := d.1) (fun i x hx hi => by
    unfold B_l_eqIntS_4
    simp only [val_br, val_ob, val_leaf, val_chk, val_sm, lt_dec hi, br_t, idx_at hx, ob_s, bne_self, br_f]
    rw [w64 (by omega)]) (by
    unfold B_l_eqIntS_4
    simp only [val_br, val_ob, val_leaf, val_chk, val_sm, ge_dec, br_f])
  unfold V_l_eqIntS T_l_eqIntS
  simp only [val_br, val_ob, val_leaf, val_chk, val_sm, bne_self, br_f]
  rw [e]
  rfl
theorem mark_IntS (d : List YI × Unit) (k : Int) (h0 : 0 ≤ k) (h1 : k + (sumN w_I d.1 : Nat) ≤ 4611686018427387904) : V_l_markIntS d (k, ()) = some ((k + (sumN w_I d.1 : Nat), ()), (mkL m_I w_I d.1 k, ())) := by
  have hl := len_le_sumN (w := w_I) (fun x => by simp only [w_I]; omega) d.1
  have e := loop_mark (B := B_l_markIntS_2) m_I w_I (l := d.1) (fun t k i x ht hx hlen h0 h1 hi => by
    have hit : i < t.length := by omega
    have hk : k + ((w_I x : Nat) : Int) = k + 1 := by simp only [w_I]; all_goals omega
    rw [hk]
    unfold B_l_markIntS_2
    simp (maxSteps := 4000000) only [val_br, val_ob, val_leaf, val_chk, val_sm, lt_dec hit, br_t, idx_at ht, ob_s, Int.toNat_natCast]
    simp only [w_I] at *
    simp (maxSteps := 4000000) (disch := first | omega | (dsimp only; omega) | (simp only [List.length_set]; omega)) only [w64, idx_set, List.set_set, ob_s, Int.toNat_natCast, chk_t, dec_t, mark_ByteS, mark_WireS]
    rfl) (fun t k hlen => by
    unfold B_l_markIntS_2
    exact (val_br _ _ _).trans ((br_ff (by simp [hlen])).trans rfl)) h0 h1
  unfold V_l_markIntS T_l_markIntS
  simp only [val_br, val_ob, val_leaf, val_chk, val_sm]
  rw [e]
  rfl
theorem held_IntS (d : List YI) (k : Int) (h0 : 0 ≤ k) (h1 : k + (sumN w_I d : Nat) ≤ 4611686018427387904) : V_l_heldIntS (mkL m_I w_I d k, ()) (k, ()) = some (k + (sumN w_I d : Nat), ()) := by
  have hl := len_le_sumN (w := w_I) (fun x => by simp only [w_I]; omega) d
  have e := loop_held (B := B_l_heldIntS_2) m_I w_I (l := d) (k := k) (fun k i x ht hx h0 h1 hi => by
    have hk : k + ((w_I x : Nat) : Int) = k + 1 := by simp only [w_I]; all_goals omega
    rw [hk]
    unfold B_l_heldIntS_2
    simp only [val_br, val_ob, val_leaf, val_chk, val_sm, mkL_len, lt_dec hi, br_t, idx_at ht, ob_s, m_I, bne_self, br_f]
    simp only [w_I] at *
    simp (maxSteps := 4000000) (disch := first | omega | (dsimp only; omega)) only [w64, ob_s, bne_self, beq_self_eq_true, Bool.not_true, br_f, nn_dec, chk_t, dec_t, held_ByteS, held_WireS]) (fun k => by
    unfold B_l_heldIntS_2
    simp only [val_br, val_ob, val_leaf, val_chk, val_sm, mkL_len, ge_dec, br_f]) h0 h1
  unfold V_l_heldIntS T_l_heldIntS
  simp only [val_br, val_ob, val_leaf, val_chk, val_sm]
  rw [e]
  rfl
theorem sz_Win (d : YWin) (n : Int) (h0 : -1 ≤ n) (h1 : n ≤ 1099511627776) (hl : lo_Win d) : V_l_szWin d (n, ()) = some (szR (need_Win d) n, ()) := by
  unfold lo_Win at hl
  skip
  unfold V_l_szWin T_l_szWin
  simp only [val_br, val_ob, val_leaf, val_chk, val_sm]
  simp (disch := first | omega | (dsimp only; omega) | exact szR_ge _ _ | exact szR_le (by omega) (by omega) | ((repeat' (first | assumption | apply And.intro)); done) | ((first | unfold lo_Win | unfold lo_Addr | unfold lo_Wire); dsimp only; (repeat' (first | assumption | apply And.intro)); done)) only [sz_ByteS, sz_Wire, sz_WireS, sz_IntS, ob_s, szR_szR]
  all_goals try simp (disch := first | omega | (simp only [need_Win, need_Addr, need_Wire]; omega)) only [brsz]
  all_goals (first | rfl | (refine congrArg (fun t => some (szR t n, ())) ?_; simp only [need_Win, need_Addr, need_Wire]; omega))
theorem to_Win (d : YWin) (h : need_Win d ≤ 4294967296) : V_l_toWin d = some d := by
  have hn : need_Win d = d.2.1.length := rfl
  unfold V_l_toWin T_l_toWin
  simp only [val_br, val_ob, val_leaf, val_chk, val_sm]
  simp (disch := first | omega | (simp only [need_Win, need_Addr, need_Wire]; omega)) only [to_ByteS, to_Addr, to_Wire, to_WireS, to_IntS, ob_s]
  all_goals rfl
theorem eq_Win (d : YWin) (h : need_Win d ≤ 4294967296) : V_l_eqWin d d = some (true, ()) := by
  have hn : need_Win d = d.2.1.length := rfl
  unfold V_l_eqWin T_l_eqWin
  simp (disch := first | omega | (simp only [need_Win, need_Addr, need_Wire]; omega)) only [val_br, val_ob, val_leaf, val_chk, val_sm, bne_self, beq_self_eq_true, br_f, ob_s, Bool.not_true, eq_ByteS, eq_Addr, eq_Wire, eq_WireS, eq_IntS]
theorem mark_Win (d : YWin) (k : Int) (h0 : 0 ≤ k) (h1 : k + (wt_Win d : Nat) ≤ 4611686018427387904) (hl : need_Win d ≤ 4294967296) : V_l_markWin d (k, ()) = some ((k + (wt_Win d : Nat), ()), (d.1, mkL m_I w_I d.2.1 (k), ())) := by
  have hn : need_Win d = d.2.1.length := rfl
  have hw : wt_Win d = sumN w_I d.2.1 := rfl
  have hk : k + ((wt_Win d : Nat) : Int) = k + (sumN w_I d.2.1 : Nat) := by simp only [wt_Win]; all_goals omega
  rw [hk]
  unfold V_l_markWin T_l_markWin
  simp (maxSteps := 4000000) (disch := first | omega | (dsimp only; omega)) only [val_br, val_ob, val_leaf, val_chk, val_sm, ob_s, mark_ByteS, mark_WireS, mark_IntS]
theorem held_Win (d : YWin) (k : Int) (h0 : 0 ≤ k) (h1 : k + (wt_Win d : Nat) ≤ 4611686018427387904) (hl : need_Win d ≤ 4294967296) : V_l_heldWin (d.1, mkL m_I w_I d.2.1 (k), ()) (k, ()) = some (k + (wt_Win d : Nat), ()) := by
  have hn : need_Win d = d.2.1.length := rfl
  have hw : wt_Win d = sumN w_I d.2.1 := rfl
  have hk : k + ((wt_Win d : Nat) : Int) = k + (sumN w_I d.2.1 : Nat) := by simp only [wt_Win]; all_goals omega
  rw [hk]
  unfold V_l_heldWin T_l_heldWin
  simp (maxSteps := 4000000) (disch := first | omega | (dsimp only; omega)) only [val_br, val_ob, val_leaf, val_chk, val_sm, ob_s, br_f, nn_dec, held_ByteS, held_WireS, held_IntS]
theorem heldc_Win (c0 : Int) (c1 : List YI) (k : Int) (h0 : 0 ≤ k) (h1 : k + (wt_Win (c0, c1, ()) : Nat) ≤ 4611686018427387904) (hl : need_Win (c0, c1, ()) ≤ 4294967296) : V_l_heldWin (c0, mkL m_I w_I c1 (k), ()) (k, ()) = some (k + (wt_Win (c0, c1, ()) : Nat), ()) := held_Win (c0, c1, ()) k h0 h1 hl
theorem sz_Ep (d : YEp) (n : Int) (h0 : -1 ≤ n) (h1 : n ≤ 1099511627776) (hl : lo_Ep d) : V_l_szEp d (n, ()) = some (szR (need_Ep d) n, ()) := by
  unfold lo_Ep at hl
  obtain ⟨hl0, hl1⟩ := hl
  unfold V_l_szEp T_l_szEp
  simp only [val_br, val_ob, val_leaf, val_chk, val_sm]
  simp (disch := first | omega | (dsimp only; omega) | exact szR_ge _ _ | exact szR_le (by omega) (by omega) | ((repeat' (first | assumption | apply And.intro)); done) | ((first | unfold lo_Ep | unfold lo_Addr | unfold lo_Wire | unfold lo_Win); dsimp only; (repeat' (first | assumption | apply And.intro)); done)) only [sz_ByteS, sz_Wire, sz_WireS, sz_IntS, sz_Win, ob_s, szR_szR]
  all_goals try simp (disch := first | omega | (simp only [need_Ep, need_Addr, need_Wire, need_Win]; omega)) only [brsz]
  all_goals (first | rfl | (refine congrArg (fun t => some (szR t n, ())) ?_; simp only [need_Ep, need_Addr, need_Wire, need_Win]; omega))
theorem to_Ep (d : YEp) (h : need_Ep d ≤ 4294967296) : V_l_toEp d = some d := by
  have hn : need_Ep d = d.2.1.length + d.2.2.2.2.1.length := rfl
  unfold V_l_toEp T_l_toEp
  simp only [val_br, val_ob, val_leaf, val_chk, val_sm]
  simp (disch := first | omega | (simp only [need_Ep, need_Addr, need_Wire, need_Win]; omega)) only [to_ByteS, to_Addr, to_Wire, to_WireS, to_IntS, to_Win, ob_s]
  all_goals rfl
theorem eq_Ep (d : YEp) (h : need_Ep d ≤ 4294967296) : V_l_eqEp d d = some (true, ()) := by
  have hn : need_Ep d = d.2.1.length + d.2.2.2.2.1.length := rfl
  unfold V_l_eqEp T_l_eqEp
  simp (disch := first | omega | (simp only [need_Ep, need_Addr, need_Wire, need_Win]; omega)) only [val_br, val_ob, val_leaf, val_chk, val_sm, bne_self, beq_self_eq_true, br_f, ob_s, Bool.not_true, eq_ByteS, eq_Addr, eq_Wire, eq_WireS, eq_IntS, eq_Win]
theorem mark_Ep (d : YEp) (k : Int) (h0 : 0 ≤ k) (h1 : k + (wt_Ep d : Nat) ≤ 4611686018427387904) (hl : need_Ep d ≤ 4294967296) : V_l_markEp d (k, ()) = some ((k + (wt_Ep d : Nat), ()), (d.1, mkL m_B w_B d.2.1 (k), d.2.2.1, d.2.2.2.1, mkL m_I w_I d.2.2.2.2.1 (k + (sumN w_B d.2.1 : Nat)), ())) := by
  have hn : need_Ep d = d.2.1.length + d.2.2.2.2.1.length := rfl
  have hw : wt_Ep d = sumN w_B d.2.1 + sumN w_I d.2.2.2.2.1 := rfl
  have hk : k + ((wt_Ep d : Nat) : Int) = k + (sumN w_B d.2.1 : Nat) + (sumN w_I d.2.2.2.2.1 : Nat) := by simp only [wt_Ep]; all_goals omega
  rw [hk]
  unfold V_l_markEp T_l_markEp
  simp (maxSteps := 4000000) (disch := first | omega | (dsimp only; omega) | (simp only [need_Win, wt_Win, Int.natCast_add]; omega)) only [val_br, val_ob, val_leaf, val_chk, val_sm, ob_s, mark_ByteS, mark_WireS, mark_IntS, mark_Win, wt_Win, Int.natCast_add, ← Int.add_assoc]
theorem held_Ep (d : YEp) (k : Int) (h0 : 0 ≤ k) (h1 : k + (wt_Ep d : Nat) ≤ 4611686018427387904) (hl : need_Ep d ≤ 4294967296) : V_l_heldEp (d.1, mkL m_B w_B d.2.1 (k), d.2.2.1, d.2.2.2.1, mkL m_I w_I d.2.2.2.2.1 (k + (sumN w_B d.2.1 : Nat)), ()) (k, ()) = some (k + (wt_Ep d : Nat), ()) := by
  have hn : need_Ep d = d.2.1.length + d.2.2.2.2.1.length := rfl
  have hw : wt_Ep d = sumN w_B d.2.1 + sumN w_I d.2.2.2.2.1 := rfl
  have hk : k + ((wt_Ep d : Nat) : Int) = k + (sumN w_B d.2.1 : Nat) + (sumN w_I d.2.2.2.2.1 : Nat) := by simp only [wt_Ep]; all_goals omega
  rw [hk]
  unfold V_l_heldEp T_l_heldEp
  simp (maxSteps := 4000000) (disch := first | omega | (dsimp only; omega) | (simp only [need_Win, wt_Win, Int.natCast_add]; omega)) only [val_br, val_ob, val_leaf, val_chk, val_sm, ob_s, br_f, nn_dec, held_ByteS, held_WireS, held_IntS, held_Win, wt_Win, Int.natCast_add, ← Int.add_assoc, heldc_Win]
theorem heldc_Ep (c0 : Int) (c1 : List YB) (c2 : Int) (c3 : Int) (c4 : List YI) (k : Int) (h0 : 0 ≤ k) (h1 : k + (wt_Ep (c0, c1, c2, c3, c4, ()) : Nat) ≤ 4611686018427387904) (hl : need_Ep (c0, c1, c2, c3, c4, ()) ≤ 4294967296) : V_l_heldEp (c0, mkL m_B w_B c1 (k), c2, c3, mkL m_I w_I c4 (k + (sumN w_B c1 : Nat)), ()) (k, ()) = some (k + (wt_Ep (c0, c1, c2, c3, c4, ()) : Nat), ()) := held_Ep (c0, c1, c2, c3, c4, ()) k h0 h1 hl
theorem sz_Chan (d : YChan) (n : Int) (h0 : -1 ≤ n) (h1 : n ≤ 1099511627776) (hl : lo_Chan d) : V_l_szChan d (n, ()) = some (szR (need_Chan d) n, ()) := by
  unfold lo_Chan at hl
  obtain ⟨hl0, hl1, hl2, hl3, hl4, hl5⟩ := hl
  unfold V_l_szChan T_l_szChan
  simp only [val_br, val_ob, val_leaf, val_chk, val_sm]
  simp (disch := first | omega | (dsimp only; omega) | exact szR_ge _ _ | exact szR_le (by omega) (by omega) | ((repeat' (first | assumption | apply And.intro)); done) | ((first | unfold lo_Chan | unfold lo_Addr | unfold lo_Wire | unfold lo_Win | unfold lo_Ep); dsimp only; (repeat' (first | assumption | apply And.intro)); done)) only [sz_ByteS, sz_Wire, sz_WireS, sz_IntS, sz_Win, sz_Ep, ob_s, szR_szR]
  all_goals try simp (disch := first | omega | (simp only [need_Chan, need_Addr, need_Wire, need_Win, need_Ep]; omega)) only [brsz]
  all_goals (first | rfl | (refine congrArg (fun t => some (szR t n, ())) ?_; simp only [need_Chan, need_Addr, need_Wire, need_Win, need_Ep]; omega))
theorem to_Chan (d : YChan) (h : need_Chan d ≤ 4294967296) : V_l_toChan d = some d := by
  have hn : need_Chan d = d.2.1.length + d.2.2.2.1.length + d.2.2.2.2.2.2.1.length + d.2.2.2.2.2.2.2.2.1.length + d.2.2.2.2.2.2.2.2.2.2.2.1.length + d.2.2.2.2.2.2.2.2.2.2.2.2.2.2.1.length := rfl
  unfold V_l_toChan T_l_toChan
  simp only [val_br, val_ob, val_leaf, val_chk, val_sm]
  simp (disch := first | omega | (simp only [need_Chan, need_Addr, need_Wire, need_Win, need_Ep]; omega)) only [to_ByteS, to_Addr, to_Wire, to_WireS, to_IntS, to_Win, to_Ep, ob_s]
  all_goals rfl
theorem eq_Chan (d : YChan) (h : need_Chan d ≤ 4294967296) : V_l_eqChan d d = some (true, ()) := by
  have hn : need_Chan d = d.2.1.length + d.2.2.2.1.length + d.2.2.2.2.2.2.1.length + d.2.2.2.2.2.2.2.2.1.length + d.2.2.2.2.2.2.2.2.2.2.2.1.length + d.2.2.2.2.2.2.2.2.2.2.2.2.2.2.1.length := rfl
  unfold V_l_eqChan T_l_eqChan
  simp (disch := first | omega | (simp only [need_Chan, need_Addr, need_Wire, need_Win, need_Ep]; omega)) only [val_br, val_ob, val_leaf, val_chk, val_sm, bne_self, beq_self_eq_true, br_f, ob_s, Bool.not_true, eq_ByteS, eq_Addr, eq_Wire, eq_WireS, eq_IntS, eq_Win, eq_Ep]
theorem mark_Chan (d : YChan) (k : Int) (h0 : 0 ≤ k) (h1 : k + (wt_Chan d : Nat) ≤ 4611686018427387904) (hl : need_Chan d ≤ 4294967296) : V_l_markChan d (k, ()) = some ((k + (wt_Chan d : Nat), ()), (d.1, mkL m_B w_B d.2.1 (k), d.2.2.1, mkL m_B w_B d.2.2.2.1 (k + (sumN w_B d.2.1 : Nat)), d.2.2.2.2.1, d.2.2.2.2.2.1, mkL m_I w_I d.2.2.2.2.2.2.1 (k + (sumN w_B d.2.1 : Nat) + (sumN w_B d.2.2.2.1 : Nat)), d.2.2.2.2.2.2.2.1, mkL m_B w_B d.2.2.2.2.2.2.2.2.1 (k + (sumN w_B d.2.1 : Nat) + (sumN w_B d.2.2.2.1 : Nat) + (sumN w_I d.2.2.2.2.2.2.1 : Nat)), d.2.2.2.2.2.2.2.2.2.1, d.2.2.2.2.2.2.2.2.2.2.1, mkL m_I w_I d.2.2.2.2.2.2.2.2.2.2.2.1 (k + (sumN w_B d.2.1 : Nat) + (sumN w_B d.2.2.2.1 : Nat) + (sumN w_I d.2.2.2.2.2.2.1 : Nat) + (sumN w_B d.2.2.2.2.2.2.2.2.1 : Nat)), d.2.2.2.2.2.2.2.2.2.2.2.2.1, d.2.2.2.2.2.2.2.2.2.2.2.2.2.1, mkL m_B w_B d.2.2.2.2.2.2.2.2.2.2.2.2.2.2.1 (k + (sumN w_B d.2.1 : Nat) + (sumN w_B d.2.2.2.1 : Nat) + (sumN w_I d.2.2.2.2.2.2.1 : Nat) + (sumN w_B d.2.2.2.2.2.2.2.2.1 : Nat) + (sumN w_I d.2.2.2.2.2.2.2.2.2.2.2.1 : Nat)), ())) := by
  have hn : need_Chan d = d.2.1.length + d.2.2.2.1.length + d.2.2.2.2.2.2.1.length + d.2.2.2.2.2.2.2.2.1.length + d.2.2.2.2.2.2.2.2.2.2.2.1.length + d.2.2.2.2.2.2.2.2.2.2.2.2.2.2.1.length := rfl
  have hw : wt_Chan d = sumN w_B d.2.1 + sumN w_B d.2.2.2.1 + sumN w_I d.2.2.2.2.2.2.1 + sumN w_B d.2.2.2.2.2.2.2.2.1 + sumN w_I d.2.2.2.2.2.2.2.2.2.2.2.1 + sumN w_B d.2.2.2.2.2.2.2.2.2.2.2.2.2.2.1 := rfl
  have hk : k + ((wt_Chan d : Nat) : Int) = k + (sumN w_B d.2.1 : Nat) + (sumN w_B d.2.2.2.1 : Nat) + (sumN w_I d.2.2.2.2.2.2.1 : Nat) + (sumN w_B d.2.2.2.2.2.2.2.2.1 : Nat) + (sumN w_I d.2.2.2.2.2.2.2.2.2.2.2.1 : Nat) + (sumN w_B d.2.2.2.2.2.2.2.2.2.2.2.2.2.2.1 : Nat) := by simp only [wt_Chan]; all_goals omega
  rw [hk]
  unfold V_l_markChan T_l_markChan
  simp (maxSteps := 4000000) (disch := first | omega | (dsimp only; omega) | (simp only [need_Ep, wt_Ep, Int.natCast_add]; omega)) only [val_br, val_ob, val_leaf, val_chk, val_sm, ob_s, mark_ByteS, mark_WireS, mark_IntS, mark_Win, mark_Ep, wt_Ep, Int.natCast_add, ← Int.add_assoc]
theorem held_Chan (d : YChan) (k : Int) (h0 : 0 ≤ k) (h1 : k + (wt_Chan d : Nat) ≤ 4611686018427387904) (hl : need_Chan d ≤ 4294967296) : V_l_heldChan (d.1, mkL m_B w_B d.2.1 (k), d.2.2.1, mkL m_B w_B d.2.2.2.1 (k + (sumN w_B d.2.1 : Nat)), d.2.2.2.2.1, d.2.2.2.2.2.1, mkL m_I w_I d.2.2.2.2.2.2.1 (k + (sumN w_B d.2.1 : Nat) + (sumN w_B d.2.2.2.1 : Nat)), d.2.2.2.2.2.2.2.1, mkL m_B w_B d.2.2.2.2.2.2.2.2.1 (k + (sumN w_B d.2.1 : Nat) + (sumN w_B d.2.2.2.1 : Nat) + (sumN w_I d.2.2.2.2.2.2.1 : Nat)), d.2.2.2.2.2.2.2.2.2.1, d.2.2.2.2.2.2.2.2.2.2.1, mkL m_I w_I d.2.2.2.2.2.2.2.2.2.2.2.1 (k + (sumN w_B d.2.1 : Nat) + (sumN w_B d.2.2.2.1 : Nat) + (sumN w_I d.2.2.2.2.2.2.1 : Nat) + (sumN w_B d.2.2.2.2.2.2.2.2.1 : Nat)), d.2.2.2.2.2.2.2.2.2.2.2.2.1, d.2.2.2.2.2.2.2.2.2.2.2.2.2.1, mkL m_B w_B d.2.2.2.2.2.2.2.2.2.2.2.2.2.2.1 (k + (sumN w_B d.2.1 : Nat) + (sumN w_B d.2.2.2.1 : Nat) + (sumN w_I d.2.2.2.2.2.2.1 : Nat) + (sumN w_B d.2.2.2.2.2.2.2.2.1 : Nat) + (sumN w_I d.2.2.2.2.2.2.2.2.2.2.2.1 : Nat)), ()) (k, ()) = some (k + (wt_Chan d : Nat), ()) := by
  have hn : need_Chan d = d.2.1.length + d.2.2.2.1.length + d.2.2.2.2.2.2.1.length + d.2.2.2.2.2.2.2.2.1.length + d.2.2.2.2.2.2.2.2.2.2.2.1.length + d.2.2.2.2.2.2.2.2.2.2.2.2.2.2.1.length := rfl
  have hw : wt_Chan d = sumN w_B d.2.1 + sumN w_B d.2.2.2.1 + sumN w_I d.2.2.2.2.2.2.1 + sumN w_B d.2.2.2.2.2.2.2.2.1 + sumN w_I d.2.2.2.2.2.2.2.2.2.2.2.1 + sumN w_B d.2.2.2.2.2.2.2.2.2.2.2.2.2.2.1 := rfl
  have hk : k + ((wt_Chan d : Nat) : Int) = k + (sumN w_B d.2.1 : Nat) + (sumN w_B d.2.2.2.1 : Nat) + (sumN w_I d.2.2.2.2.2.2.1 : Nat) + (sumN w_B d.2.2.2.2.2.2.2.2.1 : Nat) + (sumN w_I d.2.2.2.2.2.2.2.2.2.2.2.1 : Nat) + (sumN w_B d.2.2.2.2.2.2.2.2.2.2.2.2.2.2.1 : Nat) := by simp only [wt_Chan]; all_goals omega
  rw [hk]
  unfold V_l_heldChan T_l_heldChan
  simp (maxSteps := 4000000) (disch := first | omega | (dsimp only; omega) | (simp only [need_Ep, wt_Ep, Int.natCast_add]; omega)) only [val_br, val_ob, val_leaf, val_chk, val_sm, ob_s, br_f, nn_dec, held_ByteS, held_WireS, held_IntS, held_Win, held_Ep, wt_Ep, Int.natCast_add, ← Int.add_assoc, heldc_Ep]
theorem heldc_Chan (c0 : Int) (c1 : List YB) (c2 : Int) (c3 : List YB) (c4 : Int) (c5 : Int) (c6 : List YI) (c7 : Int) (c8 : List YB) (c9 : Int) (c10 : Int) (c11 : List YI) (c12 : Bool) (c13 : Int) (c14 : List YB) (k : Int) (h0 : 0 ≤ k) (h1 : k + (wt_Chan (c0, c1, c2, c3, c4, c5, c6, c7, c8, c9, c10, c11, c12, c13, c14, ()) : Nat) ≤ 4611686018427387904) (hl : need_Chan (c0, c1, c2, c3, c4, c5, c6, c7, c8, c9, c10, c11, c12, c13, c14, ()) ≤ 4294967296) : V_l_heldChan (c0, mkL m_B w_B c1 (k), c2, mkL m_B w_B c3 (k + (sumN w_B c1 : Nat)), c4, c5, mkL m_I w_I c6 (k + (sumN w_B c1 : Nat) + (sumN w_B c3 : Nat)), c7, mkL m_B w_B c8 (k + (sumN w_B c1 : Nat) + (sumN w_B c3 : Nat) + (sumN w_I c6 : Nat)), c9, c10, mkL m_I w_I c11 (k + (sumN w_B c1 : Nat) + (sumN w_B c3 : Nat) + (sumN w_I c6 : Nat) + (sumN w_B c8 : Nat)), c12, c13, mkL m_B w_B c14 (k + (sumN w_B c1 : Nat) + (sumN w_B c3 : Nat) + (sumN w_I c6 : Nat) + (sumN w_B c8 : Nat) + (sumN w_I c11 : Nat)), ()) (k, ()) = some (k + (wt_Chan (c0, c1, c2, c3, c4, c5, c6, c7, c8, c9, c10, c11, c12, c13, c14, ()) : Nat), ()) := held_Chan (c0, c1, c2, c3, c4, c5, c6, c7, c8, c9, c10, c11, c12, c13, c14, ()) k h0 h1 hl
theorem sz_Cand (d : YCand) (n : Int) (h0 : -1 ≤ n) (h1 : n ≤ 1099511627776) (hl : lo_Cand d) : V_l_szCand d (n, ()) = some (szR (need_Cand d) n, ()) := by
  unfold lo_Cand at hl
  skip
  unfold V_l_szCand T_l_szCand
  simp only [val_br, val_ob, val_leaf, val_chk, val_sm]
  simp (disch := first | omega | (dsimp only; omega) | exact szR_ge _ _ | exact szR_le (by omega) (by omega) | ((repeat' (first | assumption | apply And.intro)); done) | ((first | unfold lo_Cand | unfold lo_Addr | unfold lo_Wire | unfold lo_Win | unfold lo_Ep | unfold lo_Chan); dsimp only; (repeat' (first | assumption | apply And.intro)); done)) only [sz_ByteS, sz_Wire, sz_WireS, sz_IntS, sz_Win, sz_Ep, sz_Chan, ob_s, szR_szR]
  all_goals try simp (disch := first | omega | (simp only [need_Cand, need_Addr, need_Wire, need_Win, need_Ep, need_Chan]; omega)) only [brsz]
  all_goals (first | rfl | (refine congrArg (fun t => some (szR t n, ())) ?_; simp only [need_Cand, need_Addr, need_Wire, need_Win, need_Ep, need_Chan]; omega))
theorem to_Cand (d : YCand) (h : need_Cand d ≤ 4294967296) : V_l_toCand d = some d := by
  have hn : need_Cand d = d.2.2.1.length := rfl
  unfold V_l_toCand T_l_toCand
  simp only [val_br, val_ob, val_leaf, val_chk, val_sm]
  simp (disch := first | omega | (simp only [need_Cand, need_Addr, need_Wire, need_Win, need_Ep, need_Chan]; omega)) only [to_ByteS, to_Addr, to_Wire, to_WireS, to_IntS, to_Win, to_Ep, to_Chan, ob_s]
  all_goals rfl
theorem eq_Cand (d : YCand) (h : need_Cand d ≤ 4294967296) : V_l_eqCand d d = some (true, ()) := by
  have hn : need_Cand d = d.2.2.1.length := rfl
  unfold V_l_eqCand T_l_eqCand
  simp (disch := first | omega | (simp only [need_Cand, need_Addr, need_Wire, need_Win, need_Ep, need_Chan]; omega)) only [val_br, val_ob, val_leaf, val_chk, val_sm, bne_self, beq_self_eq_true, br_f, ob_s, Bool.not_true, eq_ByteS, eq_Addr, eq_Wire, eq_WireS, eq_IntS, eq_Win, eq_Ep, eq_Chan]
theorem sz_CandS (d : List YCand × Unit) (n : Int) (h0 : -1 ≤ n) (h1 : n ≤ 1099511627776) (hl : d.1.length ≤ 9223372036854775807 ∧ (∀ (i : Nat) x, d.1[i]? = some x → lo_Cand x)) : V_l_szCandS d (n, ()) = some (szR (d.1.length + sumN need_Cand d.1) n, ()) := by
  obtain ⟨hl1, hl2⟩ := hl
  unfold V_l_szCandS T_l_szCandS
  simp only [val_br, val_ob, val_leaf, val_chk, val_sm]
  rw [w64 (by omega)]
  by_cases h : (d.1.length : Int) ≤ n
  · rw [dec_f (by omega), br_f, loop_sz need_Cand (l := d.1) (fun n' i x hx hi h0' h1' => by
        have hlx := hl2 i x hx
        unfold B_l_szCandS_5
        simp only [val_br, val_ob, val_leaf, val_chk, val_sm, lt_dec hi, br_t, idx_at hx, ob_s]
        rw [sz_Cand x n' h0' h1' (by exact hlx), ob_s]
        rw [w64 (by omega)]) (fun n' => by
        unfold B_l_szCandS_5
        simp only [val_br, val_ob, val_leaf, val_chk, val_sm, ge_dec, br_f]) (by omega) (by omega), ← szR_szR]
    unfold szR
    rw [if_pos h]
  · rw [dec_t (by omega), br_t]
    unfold szR
    rw [if_neg (by omega)]
theorem to_CandS (d : List YCand × Unit) (h : d.1.length + sumN need_Cand d.1 ≤ 4294967296) : V_l_toCandS d = some d := by
  have e := fun (m : List YCand) (hm : m.length = d.1.length) => loop_to (B := B_l_toCandS_3) (m := m) (l := d.1) (ok := fun _ => True) (fun m i x y hx hi hy => by
    unfold B_l_toCandS_3
    simp only [val_br, val_ob, val_leaf, val_chk, val_sm, lt_dec hi, br_t, idx_at hx, idx_at hy, ob_s, Int.toNat_natCast]
    have hx2 := sumN_at (f := need_Cand) hx
    rw [to_Cand x (by first | omega | (simp only [need_Cand] at *; omega)), ob_s]
    try simp only [idx_at hy, ob_s, Int.toNat_natCast]
    rw [w64 (by omega)]) (fun m => by
    unfold B_l_toCandS_3
    simp only [val_br, val_ob, val_leaf, val_chk, val_sm, ge_dec, br_f]) hm
  unfold V_l_toCandS T_l_toCandS
  simp only [val_br, val_ob, val_leaf, val_chk, val_sm, decide_true]
  rw [dec_t (by omega), dec_t (by omega), chk_t, chk_t, chk_t, e _ (by simp)]
  rfl
theorem eq_CandS (d : List YCand × Unit) (h : d.1.length + sumN need_Cand d.1 ≤ 4294967296) : V_l_eqCandS d d = some (true, ()) := by
  have e := loop_eq (B := B_l_eqCandS_4) (l := d.1) (fun i x hx hi => by
    unfold B_l_eqCandS_4
    simp only [val_br, val_ob, val_leaf, val_chk, val_sm, lt_dec hi, br_t, idx_at hx, ob_s, bne_self, br_f]
    have hx2 := sumN_at (f := need_Cand) hx
    rw [eq_Cand x (by first | omega | (simp only [need_Cand] at *; omega)), ob_s]
    try simp only [Bool.not_true, br_f]
    rw [w64 (by omega)]) (by
    unfold B_l_eqCandS_4
    simp only [val_br, val_ob, val_leaf, val_chk, val_sm, ge_dec, br_f])
  unfold V_l_eqCandS T_l_eqCandS
  simp only [val_br, val_ob, val_leaf, val_chk, val_sm, bne_self, br_f]
  rw [e]
  rfl
theorem mark_CandS (d : List YCand × Unit) (k : Int) (h0 : 0 ≤ k) (h1 : k + (sumN w_Cand d.1 : Nat) ≤ 4611686018427387904) : V_l_markCandS d (k, ()) = some ((k + (sumN w_Cand d.1 : Nat), ()), (mkL m_Cand w_Cand d.1 k, ())) := by
  have hl := len_le_sumN (w := w_Cand) (fun x => by simp only [w_Cand]; omega) d.1
  have e := loop_mark (B := B_l_markCandS_2) m_Cand w_Cand (l := d.1) (fun t k i x ht hx hlen h0 h1 hi => by
    have hit : i < t.length := by omega
    have hw : w_Cand x = 1 + 1 + sumN w_B x.2.2.1 + 1 := rfl
    have hk : k + ((w_Cand x : Nat) : Int) = k + 1 + 1 + (sumN w_B x.2.2.1 : Nat) + 1 := by simp only [w_Cand]; all_goals omega
    rw [hk]
    unfold B_l_markCandS_2
    simp (maxSteps := 4000000) only [val_br, val_ob, val_leaf, val_chk, val_sm, lt_dec hit, br_t, idx_at ht, ob_s, Int.toNat_natCast]
    simp (maxSteps := 4000000) (disch := first | omega | (dsimp only; omega) | (simp only [List.length_set]; omega)) only [w64, idx_set, List.set_set, ob_s, Int.toNat_natCast, chk_t, dec_t, mark_ByteS, mark_WireS, mark_IntS, mark_Win, mark_Ep, mark_Chan]
    rfl) (fun t k hlen => by
    unfold B_l_markCandS_2
    exact (val_br _ _ _).trans ((br_ff (by simp [hlen])).trans rfl)) h0 h1
  unfold V_l_markCandS T_l_markCandS
  simp only [val_br, val_ob, val_leaf, val_chk, val_sm]
  rw [e]
  rfl
theorem held_CandS (d : List YCand) (k : Int) (h0 : 0 ≤ k) (h1 : k + (sumN w_Cand d : Nat) ≤ 4611686018427387904) : V_l_heldCandS (mkL m_Cand w_Cand d k, ()) (k, ()) = some (k + (sumN w_Cand d : Nat), ()) := by
  have hl := len_le_sumN (w := w_Cand) (fun x => by simp only [w_Cand]; omega) d
  have e := loop_held (B := B_l_heldCandS_2) m_Cand w_Cand (l := d) (k := k) (fun k i x ht hx h0 h1 hi => by
    have hk : k + ((w_Cand x : Nat) : Int) = k + 1 + 1 + (sumN w_B x.2.2.1 : Nat) + 1 := by simp only [w_Cand]; all_goals omega
    have hw : w_Cand x = 1 + 1 + sumN w_B x.2.2.1 + 1 := rfl
    rw [hk]
    unfold B_l_heldCandS_2
    simp only [val_br, val_ob, val_leaf, val_chk, val_sm, mkL_len, lt_dec hi, br_t, idx_at ht, ob_s, m_Cand, bne_self, br_f]
    simp (maxSteps := 4000000) (disch := first | omega | (dsimp only; omega)) only [w64, ob_s, bne_self, beq_self_eq_true, Bool.not_true, br_f, nn_dec, chk_t, dec_t, held_ByteS, held_WireS, held_IntS, held_Win, held_Ep, held_Chan]) (fun k => by
    unfold B_l_heldCandS_2
    simp only [val_br, val_ob, val_leaf, val_chk, val_sm, mkL_len, ge_dec, br_f]) h0 h1
  unfold V_l_heldCandS T_l_heldCandS
  simp only [val_br, val_ob, val_leaf, val_chk, val_sm]
  rw [e]
  rfl
theorem sz_Paths (d : YPaths) (n : Int) (h0 : -1 ≤ n) (h1 : n ≤ 1099511627776) (hl : lo_Paths d) : V_l_szPaths d (n, ()) = some (szR (need_Paths d) n, ()) := by
  unfold lo_Paths at hl
  obtain ⟨hl0, hl1⟩ := hl
  unfold V_l_szPaths T_l_szPaths
  simp only [val_br, val_ob, val_leaf, val_chk, val_sm]
  simp (disch := first | omega | (dsimp only; omega) | exact szR_ge _ _ | exact szR_le (by omega) (by omega) | ((repeat' (first | assumption | apply And.intro)); done) | ((first | unfold lo_Paths | unfold lo_Addr | unfold lo_Wire | unfold lo_Win | unfold lo_Ep | unfold lo_Chan | unfold lo_Cand); dsimp only; (repeat' (first | assumption | apply And.intro)); done)) only [sz_ByteS, sz_Wire, sz_WireS, sz_IntS, sz_Win, sz_Ep, sz_Chan, sz_Cand, sz_CandS, ob_s, szR_szR]
  all_goals try simp (disch := first | omega | (simp only [need_Paths, need_Addr, need_Wire, need_Win, need_Ep, need_Chan, need_Cand]; omega)) only [brsz]
  all_goals (first | rfl | (refine congrArg (fun t => some (szR t n, ())) ?_; simp only [need_Paths, need_Addr, need_Wire, need_Win, need_Ep, need_Chan, need_Cand]; omega))
theorem to_Paths (d : YPaths) (h : need_Paths d ≤ 4294967296) : V_l_toPaths d = some d := by
  have hn : need_Paths d = d.2.2.1.length + sumN need_Cand d.2.2.1 := rfl
  unfold V_l_toPaths T_l_toPaths
  simp only [val_br, val_ob, val_leaf, val_chk, val_sm]
  simp (disch := first | omega | (simp only [need_Paths, need_Addr, need_Wire, need_Win, need_Ep, need_Chan, need_Cand]; omega)) only [to_ByteS, to_Addr, to_Wire, to_WireS, to_IntS, to_Win, to_Ep, to_Chan, to_Cand, to_CandS, ob_s]
  all_goals rfl
theorem eq_Paths (d : YPaths) (h : need_Paths d ≤ 4294967296) : V_l_eqPaths d d = some (true, ()) := by
  have hn : need_Paths d = d.2.2.1.length + sumN need_Cand d.2.2.1 := rfl
  unfold V_l_eqPaths T_l_eqPaths
  simp (disch := first | omega | (simp only [need_Paths, need_Addr, need_Wire, need_Win, need_Ep, need_Chan, need_Cand]; omega)) only [val_br, val_ob, val_leaf, val_chk, val_sm, bne_self, beq_self_eq_true, br_f, ob_s, Bool.not_true, eq_ByteS, eq_Addr, eq_Wire, eq_WireS, eq_IntS, eq_Win, eq_Ep, eq_Chan, eq_Cand, eq_CandS]
theorem mark_Paths (d : YPaths) (k : Int) (h0 : 0 ≤ k) (h1 : k + (wt_Paths d : Nat) ≤ 4611686018427387904) (hl : need_Paths d ≤ 4294967296) : V_l_markPaths d (k, ()) = some ((k + (wt_Paths d : Nat), ()), (d.1, d.2.1, mkL m_Cand w_Cand d.2.2.1 (k), ())) := by
  have hn : need_Paths d = d.2.2.1.length + sumN need_Cand d.2.2.1 := rfl
  have hw : wt_Paths d = sumN w_Cand d.2.2.1 := rfl
  have hk : k + ((wt_Paths d : Nat) : Int) = k + (sumN w_Cand d.2.2.1 : Nat) := by simp only [wt_Paths]; all_goals omega
  rw [hk]
  unfold V_l_markPaths T_l_markPaths
  simp (maxSteps := 4000000) (disch := first | omega | (dsimp only; omega)) only [val_br, val_ob, val_leaf, val_chk, val_sm, ob_s, mark_ByteS, mark_WireS, mark_IntS, mark_Win, mark_Ep, mark_Chan, mark_CandS]
theorem held_Paths (d : YPaths) (k : Int) (h0 : 0 ≤ k) (h1 : k + (wt_Paths d : Nat) ≤ 4611686018427387904) (hl : need_Paths d ≤ 4294967296) : V_l_heldPaths (d.1, d.2.1, mkL m_Cand w_Cand d.2.2.1 (k), ()) (k, ()) = some (k + (wt_Paths d : Nat), ()) := by
  have hn : need_Paths d = d.2.2.1.length + sumN need_Cand d.2.2.1 := rfl
  have hw : wt_Paths d = sumN w_Cand d.2.2.1 := rfl
  have hk : k + ((wt_Paths d : Nat) : Int) = k + (sumN w_Cand d.2.2.1 : Nat) := by simp only [wt_Paths]; all_goals omega
  rw [hk]
  unfold V_l_heldPaths T_l_heldPaths
  simp (maxSteps := 4000000) (disch := first | omega | (dsimp only; omega)) only [val_br, val_ob, val_leaf, val_chk, val_sm, ob_s, br_f, nn_dec, held_ByteS, held_WireS, held_IntS, held_Win, held_Ep, held_Chan, held_CandS]
theorem heldc_Paths (c0 : Int) (c1 : Int) (c2 : List YCand) (k : Int) (h0 : 0 ≤ k) (h1 : k + (wt_Paths (c0, c1, c2, ()) : Nat) ≤ 4611686018427387904) (hl : need_Paths (c0, c1, c2, ()) ≤ 4294967296) : V_l_heldPaths (c0, c1, mkL m_Cand w_Cand c2 (k), ()) (k, ()) = some (k + (wt_Paths (c0, c1, c2, ()) : Nat), ()) := held_Paths (c0, c1, c2, ()) k h0 h1 hl
theorem sz_Sess (d : YSess) (n : Int) (h0 : -1 ≤ n) (h1 : n ≤ 1099511627776) (hl : lo_Sess d) : V_l_szSess d (n, ()) = some (szR (need_Sess d) n, ()) := by
  unfold lo_Sess at hl
  obtain ⟨hl0, hl1, hl2, hl3, hl4, hl5, hl6, hl7, hl8, hl9⟩ := hl
  unfold V_l_szSess T_l_szSess
  simp only [val_br, val_ob, val_leaf, val_chk, val_sm]
  simp (disch := first | omega | (dsimp only; omega) | exact szR_ge _ _ | exact szR_le (by omega) (by omega) | ((repeat' (first | assumption | apply And.intro)); done) | ((first | unfold lo_Sess | unfold lo_Addr | unfold lo_Wire | unfold lo_Win | unfold lo_Ep | unfold lo_Chan | unfold lo_Cand | unfold lo_Paths); dsimp only; (repeat' (first | assumption | apply And.intro)); done)) only [sz_ByteS, sz_Wire, sz_WireS, sz_IntS, sz_Win, sz_Ep, sz_Chan, sz_Cand, sz_CandS, sz_Paths, ob_s, szR_szR]
  all_goals try simp (disch := first | omega | (simp only [need_Sess, need_Addr, need_Wire, need_Win, need_Ep, need_Chan, need_Cand, need_Paths]; omega)) only [brsz]
  all_goals (first | rfl | (refine congrArg (fun t => some (szR t n, ())) ?_; simp only [need_Sess, need_Addr, need_Wire, need_Win, need_Ep, need_Chan, need_Cand, need_Paths]; omega))
theorem to_Sess (d : YSess) (h : need_Sess d ≤ 4294967296) : V_l_toSess d = some d := by
  have hn : need_Sess d = d.2.1.length + d.2.2.1.length + d.2.2.2.2.1.length + d.2.2.2.2.2.2.1.length + d.2.2.2.2.2.2.2.2.2.1.length + d.2.2.2.2.2.2.2.2.2.2.2.1.length + d.2.2.2.2.2.2.2.2.2.2.2.2.2.2.1.length + d.2.2.2.2.2.2.2.2.2.2.2.2.2.2.2.2.2.1.length + d.2.2.2.2.2.2.2.2.2.2.2.2.2.2.2.2.2.2.2.2.1.length + sumN need_Cand d.2.2.2.2.2.2.2.2.2.2.2.2.2.2.2.2.2.2.2.2.1 := rfl
  unfold V_l_toSess T_l_toSess
  simp only [val_br, val_ob, val_leaf, val_chk, val_sm]
  simp (disch := first | omega | (simp only [need_Sess, need_Addr, need_Wire, need_Win, need_Ep, need_Chan, need_Cand, need_Paths]; omega)) only [to_ByteS, to_Addr, to_Wire, to_WireS, to_IntS, to_Win, to_Ep, to_Chan, to_Cand, to_CandS, to_Paths, ob_s]
  all_goals rfl
theorem eq_Sess (d : YSess) (h : need_Sess d ≤ 4294967296) : V_l_eqSess d d = some (true, ()) := by
  have hn : need_Sess d = d.2.1.length + d.2.2.1.length + d.2.2.2.2.1.length + d.2.2.2.2.2.2.1.length + d.2.2.2.2.2.2.2.2.2.1.length + d.2.2.2.2.2.2.2.2.2.2.2.1.length + d.2.2.2.2.2.2.2.2.2.2.2.2.2.2.1.length + d.2.2.2.2.2.2.2.2.2.2.2.2.2.2.2.2.2.1.length + d.2.2.2.2.2.2.2.2.2.2.2.2.2.2.2.2.2.2.2.2.1.length + sumN need_Cand d.2.2.2.2.2.2.2.2.2.2.2.2.2.2.2.2.2.2.2.2.1 := rfl
  unfold V_l_eqSess T_l_eqSess
  simp (disch := first | omega | (simp only [need_Sess, need_Addr, need_Wire, need_Win, need_Ep, need_Chan, need_Cand, need_Paths]; omega)) only [val_br, val_ob, val_leaf, val_chk, val_sm, bne_self, beq_self_eq_true, br_f, ob_s, Bool.not_true, eq_ByteS, eq_Addr, eq_Wire, eq_WireS, eq_IntS, eq_Win, eq_Ep, eq_Chan, eq_Cand, eq_CandS, eq_Paths]
theorem mark_Sess (d : YSess) (k : Int) (h0 : 0 ≤ k) (h1 : k + (wt_Sess d : Nat) ≤ 4611686018427387904) (hl : need_Sess d ≤ 4294967296) : V_l_markSess d (k, ()) = some ((k + (wt_Sess d : Nat), ()), (d.1, mkL m_B w_B d.2.1 (k), mkL m_B w_B d.2.2.1 (k + (sumN w_B d.2.1 : Nat)), d.2.2.2.1, mkL m_B w_B d.2.2.2.2.1 (k + (sumN w_B d.2.1 : Nat) + (sumN w_B d.2.2.1 : Nat)), d.2.2.2.2.2.1, mkL m_B w_B d.2.2.2.2.2.2.1 (k + (sumN w_B d.2.1 : Nat) + (sumN w_B d.2.2.1 : Nat) + (sumN w_B d.2.2.2.2.1 : Nat)), d.2.2.2.2.2.2.2.1, d.2.2.2.2.2.2.2.2.1, mkL m_I w_I d.2.2.2.2.2.2.2.2.2.1 (k + (sumN w_B d.2.1 : Nat) + (sumN w_B d.2.2.1 : Nat) + (sumN w_B d.2.2.2.2.1 : Nat) + (sumN w_B d.2.2.2.2.2.2.1 : Nat)), d.2.2.2.2.2.2.2.2.2.2.1, mkL m_B w_B d.2.2.2.2.2.2.2.2.2.2.2.1 (k + (sumN w_B d.2.1 : Nat) + (sumN w_B d.2.2.1 : Nat) + (sumN w_B d.2.2.2.2.1 : Nat) + (sumN w_B d.2.2.2.2.2.2.1 : Nat) + (sumN w_I d.2.2.2.2.2.2.2.2.2.1 : Nat)), d.2.2.2.2.2.2.2.2.2.2.2.2.1, d.2.2.2.2.2.2.2.2.2.2.2.2.2.1, mkL m_I w_I d.2.2.2.2.2.2.2.2.2.2.2.2.2.2.1 (k + (sumN w_B d.2.1 : Nat) + (sumN w_B d.2.2.1 : Nat) + (sumN w_B d.2.2.2.2.1 : Nat) + (sumN w_B d.2.2.2.2.2.2.1 : Nat) + (sumN w_I d.2.2.2.2.2.2.2.2.2.1 : Nat) + (sumN w_B d.2.2.2.2.2.2.2.2.2.2.2.1 : Nat)), d.2.2.2.2.2.2.2.2.2.2.2.2.2.2.2.1, d.2.2.2.2.2.2.2.2.2.2.2.2.2.2.2.2.1, mkL m_B w_B d.2.2.2.2.2.2.2.2.2.2.2.2.2.2.2.2.2.1 (k + (sumN w_B d.2.1 : Nat) + (sumN w_B d.2.2.1 : Nat) + (sumN w_B d.2.2.2.2.1 : Nat) + (sumN w_B d.2.2.2.2.2.2.1 : Nat) + (sumN w_I d.2.2.2.2.2.2.2.2.2.1 : Nat) + (sumN w_B d.2.2.2.2.2.2.2.2.2.2.2.1 : Nat) + (sumN w_I d.2.2.2.2.2.2.2.2.2.2.2.2.2.2.1 : Nat)), d.2.2.2.2.2.2.2.2.2.2.2.2.2.2.2.2.2.2.1, d.2.2.2.2.2.2.2.2.2.2.2.2.2.2.2.2.2.2.2.1, mkL m_Cand w_Cand d.2.2.2.2.2.2.2.2.2.2.2.2.2.2.2.2.2.2.2.2.1 (k + (sumN w_B d.2.1 : Nat) + (sumN w_B d.2.2.1 : Nat) + (sumN w_B d.2.2.2.2.1 : Nat) + (sumN w_B d.2.2.2.2.2.2.1 : Nat) + (sumN w_I d.2.2.2.2.2.2.2.2.2.1 : Nat) + (sumN w_B d.2.2.2.2.2.2.2.2.2.2.2.1 : Nat) + (sumN w_I d.2.2.2.2.2.2.2.2.2.2.2.2.2.2.1 : Nat) + (sumN w_B d.2.2.2.2.2.2.2.2.2.2.2.2.2.2.2.2.2.1 : Nat)), d.2.2.2.2.2.2.2.2.2.2.2.2.2.2.2.2.2.2.2.2.2.1, d.2.2.2.2.2.2.2.2.2.2.2.2.2.2.2.2.2.2.2.2.2.2.1, d.2.2.2.2.2.2.2.2.2.2.2.2.2.2.2.2.2.2.2.2.2.2.2.1, ())) := by
  have hn : need_Sess d = d.2.1.length + d.2.2.1.length + d.2.2.2.2.1.length + d.2.2.2.2.2.2.1.length + d.2.2.2.2.2.2.2.2.2.1.length + d.2.2.2.2.2.2.2.2.2.2.2.1.length + d.2.2.2.2.2.2.2.2.2.2.2.2.2.2.1.length + d.2.2.2.2.2.2.2.2.2.2.2.2.2.2.2.2.2.1.length + d.2.2.2.2.2.2.2.2.2.2.2.2.2.2.2.2.2.2.2.2.1.length + sumN need_Cand d.2.2.2.2.2.2.2.2.2.2.2.2.2.2.2.2.2.2.2.2.1 := rfl
  have hw : wt_Sess d = sumN w_B d.2.1 + sumN w_B d.2.2.1 + sumN w_B d.2.2.2.2.1 + sumN w_B d.2.2.2.2.2.2.1 + sumN w_I d.2.2.2.2.2.2.2.2.2.1 + sumN w_B d.2.2.2.2.2.2.2.2.2.2.2.1 + sumN w_I d.2.2.2.2.2.2.2.2.2.2.2.2.2.2.1 + sumN w_B d.2.2.2.2.2.2.2.2.2.2.2.2.2.2.2.2.2.1 + sumN w_Cand d.2.2.2.2.2.2.2.2.2.2.2.2.2.2.2.2.2.2.2.2.1 := rfl
  have hk : k + ((wt_Sess d : Nat) : Int) = k + (sumN w_B d.2.1 : Nat) + (sumN w_B d.2.2.1 : Nat) + (sumN w_B d.2.2.2.2.1 : Nat) + (sumN w_B d.2.2.2.2.2.2.1 : Nat) + (sumN w_I d.2.2.2.2.2.2.2.2.2.1 : Nat) + (sumN w_B d.2.2.2.2.2.2.2.2.2.2.2.1 : Nat) + (sumN w_I d.2.2.2.2.2.2.2.2.2.2.2.2.2.2.1 : Nat) + (sumN w_B d.2.2.2.2.2.2.2.2.2.2.2.2.2.2.2.2.2.1 : Nat) + (sumN w_Cand d.2.2.2.2.2.2.2.2.2.2.2.2.2.2.2.2.2.2.2.2.1 : Nat) := by simp only [wt_Sess]; all_goals omega
  rw [hk]
  unfold V_l_markSess T_l_markSess
  simp (maxSteps := 4000000) (disch := first | omega | (dsimp only; omega) | (simp only [need_Chan, wt_Chan, need_Paths, wt_Paths, Int.natCast_add]; omega)) only [val_br, val_ob, val_leaf, val_chk, val_sm, ob_s, mark_ByteS, mark_WireS, mark_IntS, mark_Win, mark_Ep, mark_Chan, mark_CandS, mark_Paths, wt_Chan, wt_Paths, Int.natCast_add, ← Int.add_assoc]
theorem held_Sess (d : YSess) (k : Int) (h0 : 0 ≤ k) (h1 : k + (wt_Sess d : Nat) ≤ 4611686018427387904) (hl : need_Sess d ≤ 4294967296) : V_l_heldSess (d.1, mkL m_B w_B d.2.1 (k), mkL m_B w_B d.2.2.1 (k + (sumN w_B d.2.1 : Nat)), d.2.2.2.1, mkL m_B w_B d.2.2.2.2.1 (k + (sumN w_B d.2.1 : Nat) + (sumN w_B d.2.2.1 : Nat)), d.2.2.2.2.2.1, mkL m_B w_B d.2.2.2.2.2.2.1 (k + (sumN w_B d.2.1 : Nat) + (sumN w_B d.2.2.1 : Nat) + (sumN w_B d.2.2.2.2.1 : Nat)), d.2.2.2.2.2.2.2.1, d.2.2.2.2.2.2.2.2.1, mkL m_I w_I d.2.2.2.2.2.2.2.2.2.1 (k + (sumN w_B d.2.1 : Nat) + (sumN w_B d.2.2.1 : Nat) + (sumN w_B d.2.2.2.2.1 : Nat) + (sumN w_B d.2.2.2.2.2.2.1 : Nat)), d.2.2.2.2.2.2.2.2.2.2.1, mkL m_B w_B d.2.2.2.2.2.2.2.2.2.2.2.1 (k + (sumN w_B d.2.1 : Nat) + (sumN w_B d.2.2.1 : Nat) + (sumN w_B d.2.2.2.2.1 : Nat) + (sumN w_B d.2.2.2.2.2.2.1 : Nat) + (sumN w_I d.2.2.2.2.2.2.2.2.2.1 : Nat)), d.2.2.2.2.2.2.2.2.2.2.2.2.1, d.2.2.2.2.2.2.2.2.2.2.2.2.2.1, mkL m_I w_I d.2.2.2.2.2.2.2.2.2.2.2.2.2.2.1 (k + (sumN w_B d.2.1 : Nat) + (sumN w_B d.2.2.1 : Nat) + (sumN w_B d.2.2.2.2.1 : Nat) + (sumN w_B d.2.2.2.2.2.2.1 : Nat) + (sumN w_I d.2.2.2.2.2.2.2.2.2.1 : Nat) + (sumN w_B d.2.2.2.2.2.2.2.2.2.2.2.1 : Nat)), d.2.2.2.2.2.2.2.2.2.2.2.2.2.2.2.1, d.2.2.2.2.2.2.2.2.2.2.2.2.2.2.2.2.1, mkL m_B w_B d.2.2.2.2.2.2.2.2.2.2.2.2.2.2.2.2.2.1 (k + (sumN w_B d.2.1 : Nat) + (sumN w_B d.2.2.1 : Nat) + (sumN w_B d.2.2.2.2.1 : Nat) + (sumN w_B d.2.2.2.2.2.2.1 : Nat) + (sumN w_I d.2.2.2.2.2.2.2.2.2.1 : Nat) + (sumN w_B d.2.2.2.2.2.2.2.2.2.2.2.1 : Nat) + (sumN w_I d.2.2.2.2.2.2.2.2.2.2.2.2.2.2.1 : Nat)), d.2.2.2.2.2.2.2.2.2.2.2.2.2.2.2.2.2.2.1, d.2.2.2.2.2.2.2.2.2.2.2.2.2.2.2.2.2.2.2.1, mkL m_Cand w_Cand d.2.2.2.2.2.2.2.2.2.2.2.2.2.2.2.2.2.2.2.2.1 (k + (sumN w_B d.2.1 : Nat) + (sumN w_B d.2.2.1 : Nat) + (sumN w_B d.2.2.2.2.1 : Nat) + (sumN w_B d.2.2.2.2.2.2.1 : Nat) + (sumN w_I d.2.2.2.2.2.2.2.2.2.1 : Nat) + (sumN w_B d.2.2.2.2.2.2.2.2.2.2.2.1 : Nat) + (sumN w_I d.2.2.2.2.2.2.2.2.2.2.2.2.2.2.1 : Nat) + (sumN w_B d.2.2.2.2.2.2.2.2.2.2.2.2.2.2.2.2.2.1 : Nat)), d.2.2.2.2.2.2.2.2.2.2.2.2.2.2.2.2.2.2.2.2.2.1, d.2.2.2.2.2.2.2.2.2.2.2.2.2.2.2.2.2.2.2.2.2.2.1, d.2.2.2.2.2.2.2.2.2.2.2.2.2.2.2.2.2.2.2.2.2.2.2.1, ()) (k, ()) = some (k + (wt_Sess d : Nat), ()) := by
  have hn : need_Sess d = d.2.1.length + d.2.2.1.length + d.2.2.2.2.1.length + d.2.2.2.2.2.2.1.length + d.2.2.2.2.2.2.2.2.2.1.length + d.2.2.2.2.2.2.2.2.2.2.2.1.length + d.2.2.2.2.2.2.2.2.2.2.2.2.2.2.1.length + d.2.2.2.2.2.2.2.2.2.2.2.2.2.2.2.2.2.1.length + d.2.2.2.2.2.2.2.2.2.2.2.2.2.2.2.2.2.2.2.2.1.length + sumN need_Cand d.2.2.2.2.2.2.2.2.2.2.2.2.2.2.2.2.2.2.2.2.1 := rfl
  have hw : wt_Sess d = sumN w_B d.2.1 + sumN w_B d.2.2.1 + sumN w_B d.2.2.2.2.1 + sumN w_B d.2.2.2.2.2.2.1 + sumN w_I d.2.2.2.2.2.2.2.2.2.1 + sumN w_B d.2.2.2.2.2.2.2.2.2.2.2.1 + sumN w_I d.2.2.2.2.2.2.2.2.2.2.2.2.2.2.1 + sumN w_B d.2.2.2.2.2.2.2.2.2.2.2.2.2.2.2.2.2.1 + sumN w_Cand d.2.2.2.2.2.2.2.2.2.2.2.2.2.2.2.2.2.2.2.2.1 := rfl
  have hk : k + ((wt_Sess d : Nat) : Int) = k + (sumN w_B d.2.1 : Nat) + (sumN w_B d.2.2.1 : Nat) + (sumN w_B d.2.2.2.2.1 : Nat) + (sumN w_B d.2.2.2.2.2.2.1 : Nat) + (sumN w_I d.2.2.2.2.2.2.2.2.2.1 : Nat) + (sumN w_B d.2.2.2.2.2.2.2.2.2.2.2.1 : Nat) + (sumN w_I d.2.2.2.2.2.2.2.2.2.2.2.2.2.2.1 : Nat) + (sumN w_B d.2.2.2.2.2.2.2.2.2.2.2.2.2.2.2.2.2.1 : Nat) + (sumN w_Cand d.2.2.2.2.2.2.2.2.2.2.2.2.2.2.2.2.2.2.2.2.1 : Nat) := by simp only [wt_Sess]; all_goals omega
  rw [hk]
  unfold V_l_heldSess T_l_heldSess
  simp (maxSteps := 4000000) (disch := first | omega | (dsimp only; omega) | (simp only [need_Chan, wt_Chan, need_Paths, wt_Paths, Int.natCast_add]; omega)) only [val_br, val_ob, val_leaf, val_chk, val_sm, ob_s, br_f, nn_dec, held_ByteS, held_WireS, held_IntS, held_Win, held_Ep, held_Chan, held_CandS, held_Paths, wt_Chan, wt_Paths, Int.natCast_add, ← Int.add_assoc, heldc_Chan, heldc_Paths]
theorem lw_0 (d : YWire) (h : wfDs [.int .i64, .int .i64, .int .i64, .int .i64, .sl 5 [.int .u8]] d) : lo_Wire d := by
  simp only [wfDs, wfD] at h
  unfold lo_Wire
  exact ml h.2.2.2.2.1.1
theorem lw_1 (d : List YWire × Unit) (h : wfDs [.sl 65 [.int .i64, .int .i64, .int .i64, .int .i64, .sl 5 [.int .u8]]] d) : d.1.length ≤ 9223372036854775807 ∧ (∀ (i : Nat) x, d.1[i]? = some x → lo_Wire x) := by
  have h1 := h.1
  simp only [wfD] at h1
  exact ⟨ml h1.1, fun i x hx => lw_0 x (h1.2 i x hx)⟩
theorem lw_3 (d : YCand) (h : wfDs [.int .i64, .int .i64, .sl 5 [.int .u8], .int .i64] d) : lo_Cand d := by
  simp only [wfDs, wfD] at h
  unfold lo_Cand
  exact ml h.2.2.1.1
theorem lw_2 (d : YSess) (h : wfDs [.int .i64, .sl 5 [.int .u8], .sl 5 [.int .u8], .int .i64, .sl 5 [.int .u8], .int .i64, .sl 5 [.int .u8], .int .i64, .int .i64, .sl 3 [.int .i64], .int .i64, .sl 5 [.int .u8], .int .i64, .int .i64, .sl 3 [.int .i64], .bool, .int .i64, .sl 5 [.int .u8], .int .i64, .int .i64, .sl 108 [.int .i64, .int .i64, .sl 5 [.int .u8], .int .i64], .int .i64, .int .i64, .bool] d) : lo_Sess d := by
  simp only [wfDs, wfD] at h
  unfold lo_Sess
  exact ⟨ml h.2.1.1, ml h.2.2.1.1, ml h.2.2.2.2.1.1, ml h.2.2.2.2.2.2.1.1, ml h.2.2.2.2.2.2.2.2.2.1.1, ml h.2.2.2.2.2.2.2.2.2.2.2.1.1, ml h.2.2.2.2.2.2.2.2.2.2.2.2.2.2.1.1, ml h.2.2.2.2.2.2.2.2.2.2.2.2.2.2.2.2.2.1.1, ml h.2.2.2.2.2.2.2.2.2.2.2.2.2.2.2.2.2.2.2.2.1.1, fun i x hx => lw_3 x (h.2.2.2.2.2.2.2.2.2.2.2.2.2.2.2.2.2.2.2.2.1.2 i x hx)⟩
end
end Go.Proofs.Ytndbndcibmfgdaa

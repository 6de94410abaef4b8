/-
  What the helpers of the laws answer, for all arguments.
-/
import Derived.Test.YthcbhopanefaiaaW
namespace Go.Proofs.Ythcbhopanefaiaa
open Go.RowKit
set_option linter.unusedVariables false
set_option linter.unusedSimpArgs false
set_option maxHeartbeats 4000000
noncomputable section
theorem idx_at {α : Type} {l : List α} {i : Nat} {x : α} (h : l[i]? = some x) : idx l (i : Int) = some x := (idx_n l i).trans h
theorem idx_set {α : Type} {l : List α} {i : Nat} {x : α} (h : i < l.length) : idx (l.set i x) (i : Int) = some x := by rw [idx_n, List.getElem?_set_self h]
theorem lt_dec {i n : Nat} (h : i < n) : decide ((i : Int) < (n : Int)) = true := by simpa using h
theorem ge_dec (n : Nat) : decide ((n : Int) < (n : Int)) = false := by simp
theorem ne_self (a : Int) : (a != a) = false := by simp
theorem bne_self {α : Type} [BEq α] [LawfulBEq α] (a : α) : (a != a) = false := by simp
theorem nn_dec {k : Int} (h : 0 ≤ k) : decide (k < 0) = false := by simpa using h
theorem dec_t {p : Prop} [Decidable p] (h : p) : decide p = true := by simpa using h
theorem dec_f {p : Prop} [Decidable p] (h : ¬ p) : decide p = false := by simpa using h
theorem sumN_one {E : Type} {f : E → Nat} (hf : ∀ x, f x = 1) : ∀ l : List E, sumN f l = l.length
  | [] => rfl
  | x :: r => by simp only [sumN, hf, sumN_one hf r, List.length_cons]; omega
theorem len_le_sumN {E : Type} {w : E → Nat} (h : ∀ x, 1 ≤ w x) : ∀ l : List E, l.length ≤ sumN w l
  | [] => by simp [sumN]
  | x :: r => by simp only [sumN, List.length_cons]; have := h x; have := len_le_sumN h r; omega
theorem br_ff {ρ : Type} {b : Bool} {x y : Option ρ} (h : b = false) : br b x y = y := by subst h; rfl
theorem br_tt {ρ : Type} {b : Bool} {x y : Option ρ} (h : b = true) : br b x y = x := by subst h; rfl
theorem chk_tt {ρ : Type} {b : Bool} {x : Option ρ} (h : b = true) : chk b x = x := by subst h; rfl
theorem ml {n : Nat} (h : n ≤ maxLen) : n ≤ 9223372036854775807 := by unfold maxLen at h; omega
def w_B (d : YB) : Nat := 1
def m_B (d : YB) (k : Int) : YB := (IntKind.u8.wrap k, ())
def w_I (d : YI) : Nat := 1
def m_I (d : YI) (k : Int) : YI := (k, ())
def need_Wire (d : YWire) : Nat := d.2.2.2.2.1.length
def lo_Wire (d : YWire) : Prop := d.2.2.2.2.1.length ≤ 9223372036854775807
def w_Wire (d : YWire) : Nat := 1 + 1 + 1 + 1 + sumN w_B d.2.2.2.2.1
def m_Wire (d : YWire) (k : Int) : YWire := (k, k + 1, k + 1 + 1, k + 1 + 1 + 1, mkL m_B w_B d.2.2.2.2.1 (k + 1 + 1 + 1 + 1), ())
def wt_Wire (d : YWire) : Nat := sumN w_B d.2.2.2.2.1
theorem w_le_Wire (d : YWire) : w_Wire d ≤ 32 * need_Wire d + 32 := by
  have h4 := sumN_le1 (f := w_B) (fun _ => by simp [w_B]) d.2.2.2.2.1
  simp only [w_Wire, need_Wire]; omega
theorem wt_le_Wire (d : YWire) : wt_Wire d ≤ 32 * need_Wire d + 32 := by
  have h4 := sumN_le1 (f := w_B) (fun _ => by simp [w_B]) d.2.2.2.2.1
  simp only [wt_Wire, need_Wire]; omega
def need_Addr (d : YAddr) : Nat := 0
def lo_Addr (d : YAddr) : Prop := True
def w_Addr (d : YAddr) : Nat := 1 + 1
def m_Addr (d : YAddr) (k : Int) : YAddr := (k, k + 1, ())
def wt_Addr (d : YAddr) : Nat := 0
theorem w_le_Addr (d : YAddr) : w_Addr d ≤ 32 * need_Addr d + 32 := by
  simp only [w_Addr, need_Addr]; omega
theorem wt_le_Addr (d : YAddr) : wt_Addr d ≤ 32 * need_Addr d + 32 := by
  simp only [wt_Addr, need_Addr]; omega
def need_Frame (d : YFrame) : Nat := d.2.2.1.length + d.2.2.2.1.length + d.2.2.2.2.2.1.length + d.2.2.2.2.2.2.1.length + d.2.2.2.2.2.2.2.2.2.1.length + d.2.2.2.2.2.2.2.2.2.2.1.length
def lo_Frame (d : YFrame) : Prop := d.2.2.1.length ≤ 9223372036854775807 ∧ d.2.2.2.1.length ≤ 9223372036854775807 ∧ d.2.2.2.2.2.1.length ≤ 9223372036854775807 ∧ d.2.2.2.2.2.2.1.length ≤ 9223372036854775807 ∧ d.2.2.2.2.2.2.2.2.2.1.length ≤ 9223372036854775807 ∧ d.2.2.2.2.2.2.2.2.2.2.1.length ≤ 9223372036854775807
def w_Frame (d : YFrame) : Nat := 1 + 1 + sumN w_B d.2.2.1 + sumN w_B d.2.2.2.1 + 1 + sumN w_B d.2.2.2.2.2.1 + sumN w_B d.2.2.2.2.2.2.1 + 1 + 1 + sumN w_B d.2.2.2.2.2.2.2.2.2.1 + sumN w_B d.2.2.2.2.2.2.2.2.2.2.1
def m_Frame (d : YFrame) (k : Int) : YFrame := (k, k + 1, mkL m_B w_B d.2.2.1 (k + 1 + 1), mkL m_B w_B d.2.2.2.1 (k + 1 + 1 + (sumN w_B d.2.2.1 : Nat)), k + 1 + 1 + (sumN w_B d.2.2.1 : Nat) + (sumN w_B d.2.2.2.1 : Nat), mkL m_B w_B d.2.2.2.2.2.1 (k + 1 + 1 + (sumN w_B d.2.2.1 : Nat) + (sumN w_B d.2.2.2.1 : Nat) + 1), mkL m_B w_B d.2.2.2.2.2.2.1 (k + 1 + 1 + (sumN w_B d.2.2.1 : Nat) + (sumN w_B d.2.2.2.1 : Nat) + 1 + (sumN w_B d.2.2.2.2.2.1 : Nat)), k + 1 + 1 + (sumN w_B d.2.2.1 : Nat) + (sumN w_B d.2.2.2.1 : Nat) + 1 + (sumN w_B d.2.2.2.2.2.1 : Nat) + (sumN w_B d.2.2.2.2.2.2.1 : Nat), k + 1 + 1 + (sumN w_B d.2.2.1 : Nat) + (sumN w_B d.2.2.2.1 : Nat) + 1 + (sumN w_B d.2.2.2.2.2.1 : Nat) + (sumN w_B d.2.2.2.2.2.2.1 : Nat) + 1, mkL m_B w_B d.2.2.2.2.2.2.2.2.2.1 (k + 1 + 1 + (sumN w_B d.2.2.1 : Nat) + (sumN w_B d.2.2.2.1 : Nat) + 1 + (sumN w_B d.2.2.2.2.2.1 : Nat) + (sumN w_B d.2.2.2.2.2.2.1 : Nat) + 1 + 1), mkL m_B w_B d.2.2.2.2.2.2.2.2.2.2.1 (k + 1 + 1 + (sumN w_B d.2.2.1 : Nat) + (sumN w_B d.2.2.2.1 : Nat) + 1 + (sumN w_B d.2.2.2.2.2.1 : Nat) + (sumN w_B d.2.2.2.2.2.2.1 : Nat) + 1 + 1 + (sumN w_B d.2.2.2.2.2.2.2.2.2.1 : Nat)), ())
def wt_Frame (d : YFrame) : Nat := sumN w_B d.2.2.1 + sumN w_B d.2.2.2.1 + sumN w_B d.2.2.2.2.2.1 + sumN w_B d.2.2.2.2.2.2.1 + sumN w_B d.2.2.2.2.2.2.2.2.2.1 + sumN w_B d.2.2.2.2.2.2.2.2.2.2.1
theorem w_le_Frame (d : YFrame) : w_Frame d ≤ 32 * need_Frame d + 32 := by
  have h2 := sumN_le1 (f := w_B) (fun _ => by simp [w_B]) d.2.2.1
  have h3 := sumN_le1 (f := w_B) (fun _ => by simp [w_B]) d.2.2.2.1
  have h5 := sumN_le1 (f := w_B) (fun _ => by simp [w_B]) d.2.2.2.2.2.1
  have h6 := sumN_le1 (f := w_B) (fun _ => by simp [w_B]) d.2.2.2.2.2.2.1
  have h9 := sumN_le1 (f := w_B) (fun _ => by simp [w_B]) d.2.2.2.2.2.2.2.2.2.1
  have h10 := sumN_le1 (f := w_B) (fun _ => by simp [w_B]) d.2.2.2.2.2.2.2.2.2.2.1
  simp only [w_Frame, need_Frame]; omega
theorem wt_le_Frame (d : YFrame) : wt_Frame d ≤ 32 * need_Frame d + 32 := by
  have h2 := sumN_le1 (f := w_B) (fun _ => by simp [w_B]) d.2.2.1
  have h3 := sumN_le1 (f := w_B) (fun _ => by simp [w_B]) d.2.2.2.1
  have h5 := sumN_le1 (f := w_B) (fun _ => by simp [w_B]) d.2.2.2.2.2.1
  have h6 := sumN_le1 (f := w_B) (fun _ => by simp [w_B]) d.2.2.2.2.2.2.1
  have h9 := sumN_le1 (f := w_B) (fun _ => by simp [w_B]) d.2.2.2.2.2.2.2.2.2.1
  have h10 := sumN_le1 (f := w_B) (fun _ => by simp [w_B]) d.2.2.2.2.2.2.2.2.2.2.1
  simp only [wt_Frame, need_Frame]; omega
theorem sz_ByteS (d : List YB × Unit) (n : Int) (h0 : -1 ≤ n) (h1 : n ≤ 1099511627776) (hl : d.1.length ≤ 9223372036854775807) : V_l_szByteS d (n, ()) = some (szR (d.1.length) n, ()) := by
  unfold V_l_szByteS T_l_szByteS
  simp only [val_br, val_leaf]
  simp (disch := omega) only [w64]
  unfold szR
  rw [br_i]
  by_cases h : (d.1.length : Int) ≤ n
  · simp only [decide_eq_true_eq, if_neg (show ¬ (n - (d.1.length : Int) < 0) by omega), if_pos h]
  · simp only [decide_eq_true_eq, if_pos (show n - (d.1.length : Int) < 0 by omega), if_neg h]
theorem to_ByteS (d : List YB × Unit) (h : d.1.length ≤ 4294967296) : V_l_toByteS d = some d := by
  have e := fun (m : List YB) (hm : m.length = d.1.length) => loop_to (B := B_l_toByteS_3) (m := m) (l := d.1) (ok := fun _ => True) (fun m i x y hx hi hy => by
    unfold B_l_toByteS_3
    simp only [val_br, val_ob, val_leaf, val_chk, val_sm, lt_dec hi, br_t, idx_at hx, idx_at hy, ob_s, Int.toNat_natCast]
    rw [w64 (by omega)]) (fun m => by
    unfold B_l_toByteS_3
    simp only [val_br, val_ob, val_leaf, val_chk, val_sm, ge_dec, br_f]) hm
  unfold V_l_toByteS T_l_toByteS
  simp only [val_br, val_ob, val_leaf, val_chk, val_sm, decide_true]
  rw [dec_t (by omega), dec_t (by omega), chk_t, chk_t, chk_t, e _ (by simp)]
  rfl
theorem eq_ByteS (d : List YB × Unit) (h : d.1.length ≤ 4294967296) : V_l_eqByteS d d = some (true, ()) := by
  have e := loop_eq (B := B_l_eqByteS_4) (l := d.1) (fun i x hx hi => by
    unfold B_l_eqByteS_4
    simp only [val_br, val_ob, val_leaf, val_chk, val_sm, lt_dec hi, br_t, idx_at hx, ob_s, bne_self, br_f]
    rw [w64 (by omega)]) (by
    unfold B_l_eqByteS_4
    simp only [val_br, val_ob, val_leaf, val_chk, val_sm, ge_dec, br_f])
  unfold V_l_eqByteS T_l_eqByteS
  simp only [val_br, val_ob, val_leaf, val_chk, val_sm, bne_self, br_f]
  rw [e]
  rfl
theorem mark_ByteS (d : List YB × Unit) (k : Int) (h0 : 0 ≤ k) (h1 : k + (sumN w_B d.1 : Nat) ≤ 4611686018427387904) : V_l_markByteS d (k, ()) = some ((k + (sumN w_B d.1 : Nat), ()), (mkL m_B w_B d.1 k, ())) := by
  have hl := len_le_sumN (w := w_B) (fun x => by simp only [w_B]; omega) d.1
  have e := loop_mark (B := B_l_markByteS_2) m_B w_B (l := d.1) (fun t k i x ht hx hlen h0 h1 hi => by
    have hit : i < t.length := by omega
    have hk : k + ((w_B x : Nat) : Int) = k + 1 := by simp only [w_B]; all_goals omega
    rw [hk]
    unfold B_l_markByteS_2
    simp (maxSteps := 4000000) only [val_br, val_ob, val_leaf, val_chk, val_sm, lt_dec hit, br_t, idx_at ht, ob_s, Int.toNat_natCast]
    simp only [w_B] at *
    simp (maxSteps := 4000000) (disch := first | omega | (dsimp only; omega) | (simp only [List.length_set]; omega)) only [w64, idx_set, List.set_set, ob_s, Int.toNat_natCast, chk_t, dec_t]
    rfl) (fun t k hlen => by
    unfold B_l_markByteS_2
    exact (val_br _ _ _).trans ((br_ff (by simp [hlen])).trans rfl)) h0 h1
  unfold V_l_markByteS T_l_markByteS
  simp only [val_br, val_ob, val_leaf, val_chk, val_sm]
  rw [e]
  rfl
theorem held_ByteS (d : List YB) (k : Int) (h0 : 0 ≤ k) (h1 : k + (sumN w_B d : Nat) ≤ 4611686018427387904) : V_l_heldByteS (mkL m_B w_B d k, ()) (k, ()) = some (k + (sumN w_B d : Nat), ()) := by
  have hl := len_le_sumN (w := w_B) (fun x => by simp only [w_B]; omega) d
  have e := loop_held (B := B_l_heldByteS_2) m_B w_B (l := d) (k := k) (fun k i x ht hx h0 h1 hi => by
    have hk : k + ((w_B x : Nat) : Int) = k + 1 := by simp only [w_B]; all_goals omega
    rw [hk]
    unfold B_l_heldByteS_2
    simp only [val_br, val_ob, val_leaf, val_chk, val_sm, mkL_len, lt_dec hi, br_t, idx_at ht, ob_s, m_B, bne_self, br_f]
    simp only [w_B] at *
    simp (maxSteps := 4000000) (disch := first | omega | (dsimp only; omega)) only [w64, ob_s, bne_self, beq_self_eq_true, Bool.not_true, br_f, nn_dec, chk_t, dec_t]) (fun k => by
    unfold B_l_heldByteS_2
    simp only [val_br, val_ob, val_leaf, val_chk, val_sm, mkL_len, ge_dec, br_f]) h0 h1
  unfold V_l_heldByteS T_l_heldByteS
  simp only [val_br, val_ob, val_leaf, val_chk, val_sm]
  rw [e]
  rfl
theorem to_Addr (d : YAddr) : V_l_toAddr d = some d := by
  have hn : need_Addr d = 0 := rfl
  unfold V_l_toAddr T_l_toAddr
  simp only [val_br, val_ob, val_leaf, val_chk, val_sm]
  skip
  all_goals rfl
theorem eq_Addr (d : YAddr) : V_l_eqAddr d d = some (true, ()) := by
  have hn : need_Addr d = 0 := rfl
  unfold V_l_eqAddr T_l_eqAddr
  simp (disch := first | omega | (simp only [need_Addr]; omega)) only [val_br, val_ob, val_leaf, val_chk, val_sm, bne_self, beq_self_eq_true, br_f, ob_s, Bool.not_true, eq_ByteS]
theorem sz_Wire (d : YWire) (n : Int) (h0 : -1 ≤ n) (h1 : n ≤ 1099511627776) (hl : lo_Wire d) : V_l_szWire d (n, ()) = some (szR (need_Wire d) n, ()) := by
  unfold lo_Wire at hl
  skip
  unfold V_l_szWire T_l_szWire
  simp only [val_br, val_ob, val_leaf, val_chk, val_sm]
  simp (disch := first | omega | (dsimp only; omega) | exact szR_ge _ _ | exact szR_le (by omega) (by omega) | ((repeat' (first | assumption | apply And.intro)); done) | ((first | unfold lo_Wire | unfold lo_Addr); dsimp only; (repeat' (first | assumption | apply And.intro)); done)) only [sz_ByteS, ob_s, szR_szR]
  all_goals try simp (disch := first | omega | (simp only [need_Wire, need_Addr]; omega)) only [brsz]
  all_goals (first | rfl | (refine congrArg (fun t => some (szR t n, ())) ?_; simp only [need_Wire, need_Addr]; omega))
theorem to_Wire (d : YWire) (h : need_Wire d ≤ 4294967296) : V_l_toWire d = some d := by
  have hn : need_Wire d = d.2.2.2.2.1.length := rfl
  unfold V_l_toWire T_l_toWire
  simp only [val_br, val_ob, val_leaf, val_chk, val_sm]
  simp (disch := first | omega | (simp only [need_Wire, need_Addr]; omega)) only [to_ByteS, to_Addr, ob_s]
  all_goals rfl
theorem eq_Wire (d : YWire) (h : need_Wire d ≤ 4294967296) : V_l_eqWire d d = some (true, ()) := by
  have hn : need_Wire d = d.2.2.2.2.1.length := rfl
  unfold V_l_eqWire T_l_eqWire
  simp (disch := first | omega | (simp only [need_Wire, need_Addr]; omega)) only [val_br, val_ob, val_leaf, val_chk, val_sm, bne_self, beq_self_eq_true, br_f, ob_s, Bool.not_true, eq_ByteS, eq_Addr]
theorem mark_Wire (d : YWire) (k : Int) (h0 : 0 ≤ k) (h1 : k + (wt_Wire d : Nat) ≤ 4611686018427387904) (hl : need_Wire d ≤ 4294967296) : V_l_markWire d (k, ()) = some ((k + (wt_Wire d : Nat), ()), (d.1, d.2.1, d.2.2.1, d.2.2.2.1, mkL m_B w_B d.2.2.2.2.1 (k), ())) := by
  have hn : need_Wire d = d.2.2.2.2.1.length := rfl
  have hw : wt_Wire d = sumN w_B d.2.2.2.2.1 := rfl
  have hk : k + ((wt_Wire d : Nat) : Int) = k + (sumN w_B d.2.2.2.2.1 : Nat) := by simp only [wt_Wire]; all_goals omega
  rw [hk]
  unfold V_l_markWire T_l_markWire
  simp (maxSteps := 4000000) (disch := first | omega | (dsimp only; omega)) only [val_br, val_ob, val_leaf, val_chk, val_sm, ob_s, mark_ByteS]
theorem held_Wire (d : YWire) (k : Int) (h0 : 0 ≤ k) (h1 : k + (wt_Wire d : Nat) ≤ 4611686018427387904) (hl : need_Wire d ≤ 4294967296) : V_l_heldWire (d.1, d.2.1, d.2.2.1, d.2.2.2.1, mkL m_B w_B d.2.2.2.2.1 (k), ()) (k, ()) = some (k + (wt_Wire d : Nat), ()) := by
  have hn : need_Wire d = d.2.2.2.2.1.length := rfl
  have hw : wt_Wire d = sumN w_B d.2.2.2.2.1 := rfl
  have hk : k + ((wt_Wire d : Nat) : Int) = k + (sumN w_B d.2.2.2.2.1 : Nat) := by simp only [wt_Wire]; all_goals omega
  rw [hk]
  unfold V_l_heldWire T_l_heldWire
  simp (maxSteps := 4000000) (disch := first | omega | (dsimp only; omega)) only [val_br, val_ob, val_leaf, val_chk, val_sm, ob_s, br_f, nn_dec, held_ByteS]
theorem sz_WireS (d : List YWire × Unit) (n : Int) (h0 : -1 ≤ n) (h1 : n ≤ 1099511627776) (hl : d.1.length ≤ 9223372036854775807 ∧ (∀ (i : Nat) x, d.1[i]? = some x → lo_Wire x)) : V_l_szWireS d (n, ()) = some (szR (d.1.length + sumN need_Wire d.1) n, ()) := by
  obtain ⟨hl1, hl2⟩ := hl
  unfold V_l_szWireS T_l_szWireS
  simp only [val_br, val_ob, val_leaf, val_chk, val_sm]
  rw [w64 (by omega)]
  by_cases h : (d.1.length : Int) ≤ n
  · rw [dec_f (by omega), br_f, loop_sz need_Wire (l := d.1) (fun n' i x hx hi h0' h1' => by
        have hlx := hl2 i x hx
        unfold B_l_szWireS_5
        simp only [val_br, val_ob, val_leaf, val_chk, val_sm, lt_dec hi, br_t, idx_at hx, ob_s]
        rw [sz_Wire x n' h0' h1' (by exact hlx), ob_s]
        rw [w64 (by omega)]) (fun n' => by
        unfold B_l_szWireS_5
        simp only [val_br, val_ob, val_leaf, val_chk, val_sm, ge_dec, br_f]) (by omega) (by omega), ← szR_szR]
    unfold szR
    rw [if_pos h]
  · rw [dec_t (by omega), br_t]
    unfold szR
    rw [if_neg (by omega)]
theorem to_WireS (d : List YWire × Unit) (h : d.1.length + sumN need_Wire d.1 ≤ 4294967296) : V_l_toWireS d = some d := by
  have e := fun (m : List YWire) (hm : m.length = d.1.length) => loop_to (B := B_l_toWireS_3) (m := m) (l := d.1) (ok := fun _ => True) (fun m i x y hx hi hy => by
    unfold B_l_toWireS_3
    simp only [val_br, val_ob, val_leaf, val_chk, val_sm, lt_dec hi, br_t, idx_at hx, idx_at hy, ob_s, Int.toNat_natCast]
    have hx2 := sumN_at (f := need_Wire) hx
    rw [to_Wire x (by first | omega | (simp only [need_Wire] at *; omega)), ob_s]
    try simp only [idx_at hy, ob_s, Int.toNat_natCast]
    rw [w64 (by omega)]) (fun m => by
    unfold B_l_toWireS_3
    simp only [val_br, val_ob, val_leaf, val_chk, val_sm, ge_dec, br_f]) hm
  unfold V_l_toWireS T_l_toWireS
  simp only [val_br, val_ob, val_leaf, val_chk, val_sm, decide_true]
  rw [dec_t (by omega), dec_t (by omega), chk_t, chk_t, chk_t, e _ (by simp)]
  rfl
theorem eq_WireS (d : List YWire × Unit) (h : d.1.length + sumN need_Wire d.1 ≤ 4294967296) : V_l_eqWireS d d = some (true, ()) := by
  have e := loop_eq (B := B_l_eqWireS_4) (l := d.1) (fun i x hx hi => by
    unfold B_l_eqWireS_4
    simp only [val_br, val_ob, val_leaf, val_chk, val_sm, lt_dec hi, br_t, idx_at hx, ob_s, bne_self, br_f]
    have hx2 := sumN_at (f := need_Wire) hx
    rw [eq_Wire x (by first | omega | (simp only [need_Wire] at *; omega)), ob_s]
    try simp only [Bool.not_true, br_f]
    rw [w64 (by omega)]) (by
    unfold B_l_eqWireS_4
    simp only [val_br, val_ob, val_leaf, val_chk, val_sm, ge_dec, br_f])
  unfold V_l_eqWireS T_l_eqWireS
  simp only [val_br, val_ob, val_leaf, val_chk, val_sm, bne_self, br_f]
  rw [e]
  rfl
theorem mark_WireS (d : List YWire × Unit) (k : Int) (h0 : 0 ≤ k) (h1 : k + (sumN w_Wire d.1 : Nat) ≤ 4611686018427387904) : V_l_markWireS d (k, ()) = some ((k + (sumN w_Wire d.1 : Nat), ()), (mkL m_Wire w_Wire d.1 k, ())) := by
  have hl := len_le_sumN (w := w_Wire) (fun x => by simp only [w_Wire]; omega) d.1
  have e := loop_mark (B := B_l_markWireS_2) m_Wire w_Wire (l := d.1) (fun t k i x ht hx hlen h0 h1 hi => by
    have hit : i < t.length := by omega
    have hw : w_Wire x = 1 + 1 + 1 + 1 + sumN w_B x.2.2.2.2.1 := rfl
    have hk : k + ((w_Wire x : Nat) : Int) = k + 1 + 1 + 1 + 1 + (sumN w_B x.2.2.2.2.1 : Nat) := by simp only [w_Wire]; all_goals omega
    rw [hk]
    unfold B_l_markWireS_2
    simp (maxSteps := 4000000) only [val_br, val_ob, val_leaf, val_chk, val_sm, lt_dec hit, br_t, idx_at ht, ob_s, Int.toNat_natCast]
    simp (maxSteps := 4000000) (disch := first | omega | (dsimp only; omega) | (simp only [List.length_set]; omega)) only [w64, idx_set, List.set_set, ob_s, Int.toNat_natCast, chk_t, dec_t, mark_ByteS, mark_Wire]
    rfl) (fun t k hlen => by
    unfold B_l_markWireS_2
    exact (val_br _ _ _).trans ((br_ff (by simp [hlen])).trans rfl)) h0 h1
  unfold V_l_markWireS T_l_markWireS
  simp only [val_br, val_ob, val_leaf, val_chk, val_sm]
  rw [e]
  rfl
theorem held_WireS (d : List YWire) (k : Int) (h0 : 0 ≤ k) (h1 : k + (sumN w_Wire d : Nat) ≤ 4611686018427387904) : V_l_heldWireS (mkL m_Wire w_Wire d k, ()) (k, ()) = some (k + (sumN w_Wire d : Nat), ()) := by
  have hl := len_le_sumN (w := w_Wire) (fun x => by simp only [w_Wire]; omega) d
  have e := loop_held (B := B_l_heldWireS_2) m_Wire w_Wire (l := d) (k := k) (fun k i x ht hx h0 h1 hi => by
    have hk : k + ((w_Wire x : Nat) : Int) = k + 1 + 1 + 1 + 1 + (sumN w_B x.2.2.2.2.1 : Nat) := by simp only [w_Wire]; all_goals omega
    have hw : w_Wire x = 1 + 1 + 1 + 1 + sumN w_B x.2.2.2.2.1 := rfl
    rw [hk]
    unfold B_l_heldWireS_2
    simp only [val_br, val_ob, val_leaf, val_chk, val_sm, mkL_len, lt_dec hi, br_t, idx_at ht, ob_s, m_Wire, bne_self, br_f]
    simp (maxSteps := 4000000) (disch := first | omega | (dsimp only; omega)) only [w64, ob_s, bne_self, beq_self_eq_true, Bool.not_true, br_f, nn_dec, chk_t, dec_t, held_ByteS, held_Wire]) (fun k => by
    unfold B_l_heldWireS_2
    simp only [val_br, val_ob, val_leaf, val_chk, val_sm, mkL_len, ge_dec, br_f]) h0 h1
  unfold V_l_heldWireS T_l_heldWireS
  simp only [val_br, val_ob, val_leaf, val_chk, val_sm]
  rw [e]
  rfl
theorem sz_Frame (d : YFrame) (n : Int) (h0 : -1 ≤ n) (h1 : n ≤ 1099511627776) (hl : lo_Frame d) : V_l_szFrame d (n, ()) = some (szR (need_Frame d) n, ()) := by
  unfold lo_Frame at hl
  obtain ⟨hl0, hl1, hl2, hl3, hl4, hl5⟩ := hl
  unfold V_l_szFrame T_l_szFrame
  simp only [val_br, val_ob, val_leaf, val_chk, val_sm]
  simp (disch := first | omega | (dsimp only; omega) | exact szR_ge _ _ | exact szR_le (by omega) (by omega) | ((repeat' (first | assumption | apply And.intro)); done) | ((first | unfold lo_Frame | unfold lo_Addr | unfold lo_Wire); dsimp only; (repeat' (first | assumption | apply And.intro)); done)) only [sz_ByteS, sz_Wire, sz_WireS, ob_s, szR_szR]
  all_goals try simp (disch := first | omega | (simp only [need_Frame, need_Addr, need_Wire]; omega)) only [brsz]
  all_goals (first | rfl | (refine congrArg (fun t => some (szR t n, ())) ?_; simp only [need_Frame, need_Addr, need_Wire]; omega))
theorem to_Frame (d : YFrame) (h : need_Frame d ≤ 4294967296) : V_l_toFrame d = some d := by
  have hn : need_Frame d = d.2.2.1.length + d.2.2.2.1.length + d.2.2.2.2.2.1.length + d.2.2.2.2.2.2.1.length + d.2.2.2.2.2.2.2.2.2.1.length + d.2.2.2.2.2.2.2.2.2.2.1.length := rfl
  unfold V_l_toFrame T_l_toFrame
  simp only [val_br, val_ob, val_leaf, val_chk, val_sm]
  simp (disch := first | omega | (simp only [need_Frame, need_Addr, need_Wire]; omega)) only [to_ByteS, to_Addr, to_Wire, to_WireS, ob_s]
  all_goals rfl
theorem eq_Frame (d : YFrame) (h : need_Frame d ≤ 4294967296) : V_l_eqFrame d d = some (true, ()) := by
  have hn : need_Frame d = d.2.2.1.length + d.2.2.2.1.length + d.2.2.2.2.2.1.length + d.2.2.2.2.2.2.1.length + d.2.2.2.2.2.2.2.2.2.1.length + d.2.2.2.2.2.2.2.2.2.2.1.length := rfl
  unfold V_l_eqFrame T_l_eqFrame
  simp (disch := first | omega | (simp only [need_Frame, need_Addr, need_Wire]; omega)) only [val_br, val_ob, val_leaf, val_chk, val_sm, bne_self, beq_self_eq_true, br_f, ob_s, Bool.not_true, eq_ByteS, eq_Addr, eq_Wire, eq_WireS]
theorem mark_Frame (d : YFrame) (k : Int) (h0 : 0 ≤ k) (h1 : k + (wt_Frame d : Nat) ≤ 4611686018427387904) (hl : need_Frame d ≤ 4294967296) : V_l_markFrame d (k, ()) = some ((k + (wt_Frame d : Nat), ()), (d.1, d.2.1, mkL m_B w_B d.2.2.1 (k), mkL m_B w_B d.2.2.2.1 (k + (sumN w_B d.2.2.1 : Nat)), d.2.2.2.2.1, mkL m_B w_B d.2.2.2.2.2.1 (k + (sumN w_B d.2.2.1 : Nat) + (sumN w_B d.2.2.2.1 : Nat)), mkL m_B w_B d.2.2.2.2.2.2.1 (k + (sumN w_B d.2.2.1 : Nat) + (sumN w_B d.2.2.2.1 : Nat) + (sumN w_B d.2.2.2.2.2.1 : Nat)), d.2.2.2.2.2.2.2.1, d.2.2.2.2.2.2.2.2.1, mkL m_B w_B d.2.2.2.2.2.2.2.2.2.1 (k + (sumN w_B d.2.2.1 : Nat) + (sumN w_B d.2.2.2.1 : Nat) + (sumN w_B d.2.2.2.2.2.1 : Nat) + (sumN w_B d.2.2.2.2.2.2.1 : Nat)), mkL m_B w_B d.2.2.2.2.2.2.2.2.2.2.1 (k + (sumN w_B d.2.2.1 : Nat) + (sumN w_B d.2.2.2.1 : Nat) + (sumN w_B d.2.2.2.2.2.1 : Nat) + (sumN w_B d.2.2.2.2.2.2.1 : Nat) + (sumN w_B d.2.2.2.2.2.2.2.2.2.1 : Nat)), ())) := by
  have hn : need_Frame d = d.2.2.1.length + d.2.2.2.1.length + d.2.2.2.2.2.1.length + d.2.2.2.2.2.2.1.length + d.2.2.2.2.2.2.2.2.2.1.length + d.2.2.2.2.2.2.2.2.2.2.1.length := rfl
  have hw : wt_Frame d = sumN w_B d.2.2.1 + sumN w_B d.2.2.2.1 + sumN w_B d.2.2.2.2.2.1 + sumN w_B d.2.2.2.2.2.2.1 + sumN w_B d.2.2.2.2.2.2.2.2.2.1 + sumN w_B d.2.2.2.2.2.2.2.2.2.2.1 := rfl
  have hk : k + ((wt_Frame d : Nat) : Int) = k + (sumN w_B d.2.2.1 : Nat) + (sumN w_B d.2.2.2.1 : Nat) + (sumN w_B d.2.2.2.2.2.1 : Nat) + (sumN w_B d.2.2.2.2.2.2.1 : Nat) + (sumN w_B d.2.2.2.2.2.2.2.2.2.1 : Nat) + (sumN w_B d.2.2.2.2.2.2.2.2.2.2.1 : Nat) := by simp only [wt_Frame]; all_goals omega
  rw [hk]
  unfold V_l_markFrame T_l_markFrame
  simp (maxSteps := 4000000) (disch := first | omega | (dsimp only; omega)) only [val_br, val_ob, val_leaf, val_chk, val_sm, ob_s, mark_ByteS, mark_Wire, mark_WireS]
theorem lw_0 (d : YWire) (h : wfDs [.int .i64, .int .i64, .int .i64, .int .i64, .sl 5 [.int .u8]] d) : lo_Wire d := by
  simp only [wfDs, wfD] at h
  unfold lo_Wire
  exact ml h.2.2.2.2.1.1
theorem lw_1 (d : List YWire × Unit) (h : wfDs [.sl 36 [.int .i64, .int .i64, .int .i64, .int .i64, .sl 5 [.int .u8]]] d) : d.1.length ≤ 9223372036854775807 ∧ (∀ (i : Nat) x, d.1[i]? = some x → lo_Wire x) := by
  have h1 := h.1
  simp only [wfD] at h1
  exact ⟨ml h1.1, fun i x hx => lw_0 x (h1.2 i x hx)⟩
theorem lw_2 (d : YFrame) (h : wfDs [.int .i64, .int .i64, .sl 5 [.int .u8], .sl 5 [.int .u8], .int .i64, .sl 5 [.int .u8], .sl 5 [.int .u8], .int .i64, .int .i64, .sl 5 [.int .u8], .sl 5 [.int .u8]] d) : lo_Frame d := by
  simp only [wfDs, wfD] at h
  unfold lo_Frame
  exact ⟨ml h.2.2.1.1, ml h.2.2.2.1.1, ml h.2.2.2.2.2.1.1, ml h.2.2.2.2.2.2.1.1, ml h.2.2.2.2.2.2.2.2.2.1.1, ml h.2.2.2.2.2.2.2.2.2.2.1.1⟩
end
end Go.Proofs.Ythcbhopanefaiaa

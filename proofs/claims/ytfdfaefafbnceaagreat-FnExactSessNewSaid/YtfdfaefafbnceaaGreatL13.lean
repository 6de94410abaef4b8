/-
  That the program and the reference answer alike, in plain terms, and that the laws answer true.
-/
import Derived.Test.YtfdfaefafbnceaaGreatL12
namespace Go.Proofs.YtfdfaefafbnceaaGreat
open Go.RowKit
set_option linter.unusedVariables false
set_option linter.unusedSimpArgs false
set_option maxRecDepth 100000
set_option maxHeartbeats 4000000
noncomputable section
/-! ## A table with a session put -/
def expand32 (k l : List YB) : List YB × Bool := if l.length ≤ 100 ∧ k.length ≤ 1048576 then (hmac k (l ++ [((1 : Int), ())]), true) else ([], false)
theorem i_Expand32 (k l : List YB) : V_i_Expand (k, ()) (l, ()) ((32 : Int), ()) = some (((expand32 k l).1, ()), ((expand32 k l).2, ())) := by
  unfold V_i_Expand T_i_Expand expand32
  simp only [val_br, val_ob, val_leaf, val_chk, i_within, ob_s]
  rw [br_ff (by decide)]
  by_cases hl : l.length ≤ 100
  · rw [dec_f (by omega), br_f]
    by_cases hk : k.length ≤ 1048576
    · rw [dec_f (by omega), br_f, if_pos ⟨hl, hk⟩]
      have h32 : (hmac k (l ++ [((1 : Int), ())])).length = 32 := hmac_32 _ _ hk (by simp; omega)
      have e1 : B_i_Expand_6 (k, l, (32 : Int), [], [], (1 : Int), ()) = some (.inl (k, l, (32 : Int), hmac k (l ++ [((1 : Int), ())]), hmac k (l ++ [((1 : Int), ())]), (2 : Int), ())) := by
        unfold B_i_Expand_6
        simp only [val_br, val_ob, val_leaf, val_chk]
        rw [dec_t (by simp), br_t, i_joined _ (by simp [cat]; omega) (by simp), ob_s, show cat [([], ()), (l, ()), ([(IntKind.u8.wrap 1, ())], ())] = l ++ [((1 : Int), ())] by simp [cat]; rfl, i_Hmac, ob_s, dec_t (by dsimp only [List.length_nil]; omega), chk_t, List.nil_append]
        rfl
      have e2 : B_i_Expand_6 (k, l, (32 : Int), hmac k (l ++ [((1 : Int), ())]), hmac k (l ++ [((1 : Int), ())]), (2 : Int), ()) = some (.inr ((32 : Int), hmac k (l ++ [((1 : Int), ())]), ())) := by
        unfold B_i_Expand_6
        simp only [val_br, val_ob, val_leaf, val_chk]
        rw [dec_f (by omega), br_f]
      rw [iterO_eq, e1]
      simp only
      rw [iterO_eq, e2]
      simp only [ob_s]
      rw [dec_t (by omega), chk_t, dec_t (by omega), chk_t, show (32 : Int).toNat = 32 from rfl, show (0 : Int).toNat = 0 from rfl, List.drop_zero, List.take_of_length_le (by omega), i_clone _ (by dsimp only; omega), ob_s]
    · rw [dec_t (by omega), br_t, if_neg (fun h => hk h.2)]
  · rw [dec_t (by omega), br_t, if_neg (fun h => hl h.1)]
theorem s_Expand32 (k l : List YB) : V_s_Expand (k, ()) (l, ()) ((32 : Int), ()) = some (((expand32 k l).1, ()), ((expand32 k l).2, ())) := by
  unfold V_s_Expand T_s_Expand expand32
  simp only [val_br, val_ob, val_leaf, val_chk, s_l1In, ob_s, List.nil_append, List.length_nil, Nat.zero_add]
  rw [br_ff (by decide)]
  by_cases hl : l.length ≤ 100
  · rw [dec_f (by omega), br_f]
    by_cases hk : k.length ≤ 1048576
    · rw [dec_f (by omega), br_f, if_pos ⟨hl, hk⟩]
      have h32 : (hmac k (l ++ [((1 : Int), ())])).length = 32 := hmac_32 _ _ hk (by simp; omega)
      have e1 : B_s_Expand_6 (k, l, (32 : Int), [], [], (1 : Int), ()) = some (.inl (k, l, (32 : Int), hmac k (l ++ [((1 : Int), ())]), hmac k (l ++ [((1 : Int), ())]), (2 : Int), ())) := by
        unfold B_s_Expand_6
        simp only [val_br, val_ob, val_leaf, val_chk, List.nil_append, List.length_nil, Nat.zero_add]
        rw [dec_t (by simp), br_t, dec_t (by omega), chk_t, dec_t (by omega), chk_t, dec_t (by simp; omega), chk_t, show (IntKind.u8.wrap 1 : Int) = 1 from rfl, s_Hmac, ob_s, dec_t (by dsimp only; omega), chk_t]
        rfl
      have e2 : B_s_Expand_6 (k, l, (32 : Int), hmac k (l ++ [((1 : Int), ())]), hmac k (l ++ [((1 : Int), ())]), (2 : Int), ()) = some (.inr ((32 : Int), hmac k (l ++ [((1 : Int), ())]), ())) := by
        unfold B_s_Expand_6
        simp only [val_br, val_ob, val_leaf, val_chk]
        rw [dec_f (by omega), br_f]
      rw [iterO_eq, e1]
      simp only
      rw [iterO_eq, e2]
      simp only [ob_s]
      rw [dec_t (by omega), chk_t, dec_t (by omega), chk_t, show (32 : Int).toNat = 32 from rfl, show (0 : Int).toNat = 0 from rfl, List.drop_zero, List.take_of_length_le (by omega), dec_t (by omega), chk_t]
    · rw [dec_t (by omega), br_t, if_neg (fun h => hk h.2)]
  · rw [dec_t (by omega), br_t, if_neg (fun h => hl h.1)]
def derive (k l : List YB) : List YB := (expand32 k l).1
theorem derive_len (k l : List YB) : (derive k l).length = 32 ∨ (derive k l).length = 0 := by
  unfold derive expand32
  split
  · exact hmac_len _ _
  · right; rfl
theorem i_Derive (k : List YB) (b : ByteArray) (h : b.size ≤ 4294967296) : V_i_Derive (k, ()) (b, ()) = some (derive k (strb b), ()) := by
  unfold V_i_Derive T_i_Derive
  simp only [val_ob, val_leaf, val_chk]
  rw [dec_t h, chk_t, i_Expand32, ob_s]; rfl
theorem s_Derive (k : List YB) (b : ByteArray) (h : b.size ≤ 4294967296) : V_s_Derive (k, ()) (b, ()) = some (derive k (strb b), ()) := by
  unfold V_s_Derive T_s_Derive
  simp only [val_ob, val_leaf, val_chk]
  rw [dec_t h, chk_t, s_Expand32, ob_s]; rfl
def rekeyL : List YB := strb (bytesLit [114, 101, 107, 101, 121])
def epochL : List YB := strb (bytesLit [101, 112, 111, 99, 104])
theorem i_DeriveR (k : List YB) : V_i_Derive (k, ()) (bytesLit [114, 101, 107, 101, 121], ()) = some (derive k rekeyL, ()) := i_Derive k _ (by decide)
theorem s_DeriveR (k : List YB) : V_s_Derive (k, ()) (bytesLit [114, 101, 107, 101, 121], ()) = some (derive k rekeyL, ()) := s_Derive k _ (by decide)
theorem i_DeriveE (k : List YB) : V_i_Derive (k, ()) (bytesLit [101, 112, 111, 99, 104], ()) = some (derive k epochL, ()) := i_Derive k _ (by decide)
theorem s_DeriveE (k : List YB) : V_s_Derive (k, ()) (bytesLit [101, 112, 111, 99, 104], ()) = some (derive k epochL, ()) := s_Derive k _ (by decide)
def chainN (k : List YB) : Nat → List YB
  | 0 => k
  | n + 1 => derive (chainN k n) rekeyL
def chainF (k : List YB) (n : Int) : List YB := if 0 ≤ n ∧ n ≤ 64 then chainN k n.toNat else []
theorem i_Chain (k : List YB) (n : Int) (h : k.length ≤ 4294967296) : V_i_Chain (k, ()) (n, ()) = some (chainF k n, ()) := by
  unfold V_i_Chain T_i_Chain chainF
  simp only [val_br, val_ob, val_leaf, i_within, ob_s]
  by_cases hn : 0 ≤ n ∧ n ≤ 64
  · obtain ⟨m, rfl⟩ := Int.eq_ofNat_of_zero_le hn.1
    have hr := loop_run (B := B_i_Chain_5) m (fun i => ((m : Int), chainN k i, (i : Int), ())) (chainN k m, ())
      (fun i hi => by
        unfold B_i_Chain_5
        simp only [val_br, val_ob, val_leaf]
        rw [dec_t (by omega), br_t, i_DeriveR, ob_s, w64 (by omega)]
        rfl)
      (by
        unfold B_i_Chain_5
        simp only [val_br, val_ob, val_leaf]
        rw [dec_f (by omega), br_f])
    rw [br_ff (by simp [inR]; omega), i_clone _ h, ob_s, if_pos hn]
    rw [show iterO B_i_Chain_5 ((m : Int), k, (0 : Int), ()) = _ from hr, ob_s]
    rfl
  · rw [if_neg hn, br_tt (by simp [inR]; omega)]
theorem s_Chain (k : List YB) (n : Int) (h : k.length ≤ 4294967296) : V_s_Chain (k, ()) (n, ()) = some (chainF k n, ()) := by
  unfold V_s_Chain T_s_Chain chainF
  simp only [val_br, val_ob, val_leaf, val_chk, s_l1In, ob_s, List.nil_append, List.length_nil, Nat.zero_add]
  by_cases hn : 0 ≤ n ∧ n ≤ 64
  · obtain ⟨m, rfl⟩ := Int.eq_ofNat_of_zero_le hn.1
    have hr := loop_run (B := B_s_Chain_5) m (fun i => ((m : Int), chainN k i, (i : Int), ())) (chainN k m, ())
      (fun i hi => by
        unfold B_s_Chain_5
        simp only [val_br, val_ob, val_leaf]
        rw [dec_t (by omega), br_t, s_DeriveR, ob_s, w64 (by omega)]
        rfl)
      (by
        unfold B_s_Chain_5
        simp only [val_br, val_ob, val_leaf]
        rw [dec_f (by omega), br_f])
    rw [br_ff (by simp [inR]; omega), dec_t h, chk_t, if_pos hn]
    rw [show iterO B_s_Chain_5 ((m : Int), k, (0 : Int), ()) = _ from hr, ob_s]
    rfl
  · rw [if_neg hn, br_tt (by simp [inR]; omega)]
def rootKey (p a b : List YB) : List YB := if inR (p.length : Int) 1 32 = true ∧ a.length = 12 ∧ b.length = 12 then hmac (a ++ b) p else []
theorem i_RootKey (p a b : List YB) : V_i_RootKey (p, ()) (a, ()) (b, ()) = some (rootKey p a b, ()) := by
  unfold V_i_RootKey T_i_RootKey rootKey V_i_Extract T_i_Extract
  simp only [val_br, val_ob, val_leaf, i_PskOk, i_isNonce, ob_s, pskOk]
  cases inR (p.length : Int) 1 32 with
  | false => rw [if_neg (by simp)]; rfl
  | true =>
    simp only [Bool.not_true, br_f]
    by_cases h1 : a.length = 12
    · rw [br_ff (by simp [h1])]
      by_cases h2 : b.length = 12
      · rw [br_ff (by simp [h2]), i_joined _ (by simp [cat]; omega) (by simp), ob_s, show cat [(a, ()), (b, ())] = a ++ b by simp [cat], i_Hmac, if_pos ⟨trivial, h1, h2⟩]; rfl
      · rw [br_tt (by simp; omega), if_neg (fun h => h2 h.2.2)]
    · rw [br_tt (by simp; omega), if_neg (fun h => h1 h.2.1)]
theorem s_RootKey (p a b : List YB) : V_s_RootKey (p, ()) (a, ()) (b, ()) = some (rootKey p a b, ()) := by
  unfold V_s_RootKey T_s_RootKey rootKey V_s_Extract T_s_Extract
  simp only [val_br, val_ob, val_leaf, val_chk, s_PskOk, ob_s, pskOk, List.nil_append, List.length_nil, Nat.zero_add]
  cases inR (p.length : Int) 1 32 with
  | false => rw [if_neg (by simp)]; rfl
  | true =>
    simp only [Bool.not_true, br_f]
    by_cases h1 : a.length = 12
    · rw [br_ff (by simp [h1])]
      by_cases h2 : b.length = 12
      · rw [br_ff (by simp [h2]), dec_t (by omega), chk_t, dec_t (by omega), chk_t, s_Hmac, if_pos ⟨trivial, h1, h2⟩]; rfl
      · rw [br_tt (by simp; omega), if_neg (fun h => h2 h.2.2)]
    · rw [br_tt (by simp; omega), if_neg (fun h => h1 h.2.1)]
def firstKey (r : List YB) : List YB := if r.length = 32 then derive r epochL else []
theorem firstKey_len (r : List YB) : (firstKey r).length = 32 ∨ (firstKey r).length = 0 := by
  unfold firstKey
  split
  · exact derive_len _ _
  · right; rfl
theorem i_FirstKey (r : List YB) : V_i_FirstKey (r, ()) = some (firstKey r, ()) := by
  unfold V_i_FirstKey T_i_FirstKey firstKey
  simp only [val_br, val_ob, val_leaf, i_DeriveE, ob_s]
  by_cases h : r.length = 32
  · rw [if_pos h, br_ff (by simp [h])]
  · rw [if_neg h, br_tt (by simp; omega)]
theorem s_FirstKey (r : List YB) : V_s_FirstKey (r, ()) = some (firstKey r, ()) := by
  unfold V_s_FirstKey T_s_FirstKey firstKey
  simp only [val_br, val_ob, val_leaf, s_DeriveE, ob_s]
  by_cases h : r.length = 32
  · rw [if_pos h, br_ff (by simp [h])]
  · rw [if_neg h, br_tt (by simp; omega)]
def epochKey (p a b : List YB) (n : Int) : List YB := if (firstKey (rootKey p a b)).length = 0 then [] else chainF (firstKey (rootKey p a b)) n
theorem i_EpochKey (p a b : List YB) (n : YI) : V_i_EpochKey (p, ()) (a, ()) (b, ()) n = some (epochKey p a b n.1, ()) := by
  have hf := firstKey_len (rootKey p a b)
  unfold V_i_EpochKey T_i_EpochKey epochKey
  simp only [val_br, val_ob, val_leaf, i_RootKey, i_FirstKey, ob_s]
  by_cases h : (firstKey (rootKey p a b)).length = 0
  · rw [if_pos h, br_tt (by simp [h])]
  · rw [if_neg h, br_ff (by simp; intro e; rw [e] at h; exact h rfl), i_Chain _ _ (by omega)]; rfl
theorem s_EpochKey (p a b : List YB) (n : YI) : V_s_EpochKey (p, ()) (a, ()) (b, ()) n = some (epochKey p a b n.1, ()) := by
  have hf := firstKey_len (rootKey p a b)
  unfold V_s_EpochKey T_s_EpochKey epochKey
  simp only [val_br, val_ob, val_leaf, s_RootKey, s_FirstKey, ob_s]
  by_cases h : (firstKey (rootKey p a b)).length = 0
  · rw [if_pos h, br_tt (by simp [h]), List.eq_nil_of_length_eq_zero h]
  · rw [if_neg h, br_ff (by simp; intro e; rw [e] at h; exact h rfl), s_Chain _ _ (by omega)]; rfl
theorem s_WinNew : V_s_WinNew = V_i_WinNew := by
  have hr := loop_run (B := B_s_WinNew_3) 32 (fun i => ((i : Int), (0 : Int), ([] : List YI), (-1 : Int), List.replicate i ((0 : Int), ()), ())) ((0 : Int), ([] : List YI), (-1 : Int), List.replicate 32 ((0 : Int), ()), ())
    (fun i hi => by
      unfold B_s_WinNew_3
      simp only [val_br, val_chk, val_leaf]
      rw [dec_t (by omega), br_t, dec_t (by simp; omega), chk_t, w64 (by omega), List.replicate_succ']
      rfl)
    (by
      unfold B_s_WinNew_3
      simp only [val_br, val_chk, val_leaf]
      rw [dec_f (by omega), br_f])
  unfold V_s_WinNew T_s_WinNew V_i_WinNew T_i_WinNew
  simp only [val_ob, val_leaf]
  rw [show iterO B_s_WinNew_3 ((0 : Int), (0 : Int), ([] : List YI), (-1 : Int), ([] : List YI), ()) = _ from hr, ob_s]
  rfl
def winNew : YWin := ((-1 : Int), List.replicate 32 ((0 : Int), ()), ())
theorem i_WinNew : V_i_WinNew = some winNew := rfl
theorem ok_EpNew (n : YI) (k : YBs) : ∃ r, V_i_EpNew n k = some r ∧ V_s_EpNew n k = some r ∧ need_Ep r ≤ 64 := by
  unfold V_i_EpNew T_i_EpNew V_s_EpNew T_s_EpNew
  simp only [val_br, val_ob, val_leaf, val_chk, i_within, s_l1In, ob_s, s_WinNew, i_WinNew, List.nil_append, List.length_nil, Nat.zero_add]
  cases inR n.1 0 4294967295 with
  | false => exact ⟨_, rfl, rfl, by decide⟩
  | true =>
    simp only [Bool.not_true, br_f]
    by_cases h : k.1.length = 32
    · have q : ((k.1.length : Int) != 32) = false := by simp [h]
      rw [q, i_clone k (by omega), dec_t (by omega)]
      simp only [br_f, ob_s, chk_t]
      refine ⟨_, rfl, rfl, ?_⟩
      simp only [need_Ep, winNew, List.length_replicate]; omega
    · have q : ((k.1.length : Int) != 32) = true := by simp; omega
      rw [q]
      exact ⟨_, rfl, rfl, by decide⟩
theorem ok_ChanNew (n : YI) (a k : YBs) : ∃ r, V_i_ChanNew n a k = some r ∧ V_s_ChanNew n a k = some r ∧ need_Chan r ≤ 76 := by
  unfold V_i_ChanNew T_i_ChanNew V_s_ChanNew T_s_ChanNew
  simp only [val_br, val_ob, val_leaf, val_chk, i_isRole, s_l1In, i_isNonce, ob_s, role_in, List.nil_append, List.length_nil, Nat.zero_add]
  cases inR n.1 0 1 with
  | false => exact ⟨_, rfl, rfl, by decide⟩
  | true =>
    simp only [Bool.not_true, br_f]
    by_cases h1 : a.1.length = 12
    · have q1 : ((a.1.length : Int) == 12) = true := by simp [h1]
      have q2 : ((a.1.length : Int) != 12) = false := by simp [h1]
      rw [q1, q2]
      simp only [Bool.not_true, br_f]
      by_cases h : k.1.length = 32
      · have q : ((k.1.length : Int) != 32) = false := by simp [h]
        obtain ⟨r, e1, e2, e3⟩ := ok_EpNew ((0 : Int), ()) k
        rw [q, i_clone a (by omega), dec_t (by omega), e1, e2]
        simp only [br_f, ob_s, chk_t]
        refine ⟨_, rfl, rfl, ?_⟩
        simp only [need_Ep] at e3
        simp only [need_Chan, List.length_nil]; omega
      · have q : ((k.1.length : Int) != 32) = true := by simp; omega
        rw [q]
        exact ⟨_, rfl, rfl, by decide⟩
    · have q1 : ((a.1.length : Int) == 12) = false := by simp; omega
      have q2 : ((a.1.length : Int) != 12) = true := by simp; omega
      rw [q1, q2]
      exact ⟨_, rfl, rfl, by decide⟩
theorem ok_SessNew (p : YBs) (n : YI) (a : YAddr) (f : YFrame) (h : need_Frame f ≤ 1073741824) : ∃ r, V_i_SessNew p n a f = some r ∧ V_s_SessNew p n a f = some r ∧ need_Sess r ≤ need_Frame f + 76 := by
  have hn : f.2.2.1.length + f.2.2.2.1.length ≤ need_Frame f := by simp only [need_Frame]; omega
  obtain ⟨c, e1, e2, e3⟩ := ok_ChanNew ((1 : Int), ()) (f.2.2.2.1, ()) (epochKey p.1 f.2.2.1 f.2.2.2.1 0, ())
  unfold V_i_SessNew T_i_SessNew V_s_SessNew T_s_SessNew V_i_PathsNew T_i_PathsNew V_s_PathsNew T_s_PathsNew
  simp only [val_br, val_ob, val_leaf, val_chk, i_within, s_l1In, ob_s, i_PskOk, s_PskOk, i_AddrOk, s_AddrOk, List.nil_append, List.length_nil, Nat.zero_add]
  rw [i_FrameOk f, s_FrameOk f, ob_s, ob_s]
  have z : need_Sess ((0 : Int), ([] : List (Int × Unit)), ([] : List (Int × Unit)), (0 : Int), ([] : List (Int × Unit)), (0 : Int), ([] : List (Int × Unit)), (0 : Int), (0 : Int), ([] : List (Int × Unit)), (0 : Int), ([] : List (Int × Unit)), (0 : Int), (0 : Int), ([] : List (Int × Unit)), false, (0 : Int), ([] : List (Int × Unit)), (0 : Int), (0 : Int), ([] : List (Int × Int × (List (Int × Unit)) × Int × Unit)), (0 : Int), (0 : Int), false, ()) ≤ need_Frame f + 76 := by
    simp only [need_Sess, sumN, List.length_nil]; omega
  cases pskOk p with
  | false => exact ⟨_, rfl, rfl, z⟩
  | true =>
    cases inR n.1 0 1000000 with
    | false => exact ⟨_, rfl, rfl, z⟩
    | true =>
      cases addrOk a with
      | false => exact ⟨_, rfl, rfl, z⟩
      | true =>
        cases hk : (f.1 != (3 : Int)) with
        | true => cases frameOk f <;> exact ⟨_, rfl, rfl, z⟩
        | false =>
          cases frameOk f with
          | false => exact ⟨_, rfl, rfl, z⟩
          | true =>
            simp only [Bool.not_true, br_f]
            rw [i_clone _ (by dsimp only; omega), i_clone _ (by dsimp only; omega), dec_t (by omega), chk_t, dec_t (by omega), chk_t]
            simp only [ob_s]
            rw [show V_i_EpochKey p (f.2.2.1, ()) (f.2.2.2.1, ()) ((0 : Int), ()) = some (epochKey p.1 f.2.2.1 f.2.2.2.1 0, ()) from i_EpochKey _ _ _ _, show V_s_EpochKey p (f.2.2.1, ()) (f.2.2.2.1, ()) ((0 : Int), ()) = some (epochKey p.1 f.2.2.1 f.2.2.2.1 0, ()) from s_EpochKey _ _ _ _]
            simp only [ob_s]
            rw [e1, e2]
            simp only [ob_s]
            refine ⟨_, rfl, rfl, ?_⟩
            simp only [need_Chan] at e3
            simp only [need_Sess, sumN, List.length_nil]; omega
theorem law_SessNew (p : YBs) (n : YI) (a : YAddr) (f : YFrame) (hw : lo_Frame f) : V_l_FnExactSessNew p n a f = some (true, ()) := by
  unfold V_l_FnExactSessNew T_l_FnExactSessNew
  simp only [val_ob, val_br, val_leaf]
  by_cases h0 : (p.1.length : Int) > 1048576
  · rw [dec_t h0, br_t]
  · rw [dec_f h0, br_f, sz_Frame f _ (by omega) (by omega) hw, ob_s]
    by_cases h : szR (need_Frame f) 1048576 < 0
    · rw [br_tt (by simpa using h)]
    · have hb := szR_pos h
      obtain ⟨r, h1, h2, h3⟩ := ok_SessNew p n a f (by omega)
      have h4 := wt_le_Sess r
      have h5 := wt_le_Frame f
      have h6 := sumN_le1 (f := w_B) (fun _ => by simp [w_B]) p.1
      rw [br_ff (by simpa using h)]
      simp (disch := first | omega | (dsimp only; omega)) only [to_ByteS, to_Addr, to_Frame, ob_s, h1, h2, eq_Sess, eq_ByteS, eq_Frame, eq_Addr, mark_ByteS, mark_Frame, mark_Sess, held_Sess, Bool.not_true, br_f, nn_dec, bne_self]
end
end Go.Proofs.YtfdfaefafbnceaaGreat

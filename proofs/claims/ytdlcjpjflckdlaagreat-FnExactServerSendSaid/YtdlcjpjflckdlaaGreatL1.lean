/-
  That the program and the reference answer alike, in plain terms, and that the laws answer true.
-/
import Derived.Test.YtdlcjpjflckdlaaGreatH
namespace Go.Proofs.YtdlcjpjflckdlaaGreat
open Go.RowKit
set_option linter.unusedVariables false
set_option linter.unusedSimpArgs false
set_option maxHeartbeats 4000000
noncomputable section
def inR (n lo hi : Int) : Bool := decide (lo ≤ n) && decide (n ≤ hi)
theorem i_within (n lo hi : YI) : V_i_within n lo hi = some (inR n.1 lo.1 hi.1, ()) := by
  unfold V_i_within T_i_within inR
  simp only [val_br, val_leaf, br_i]
  split <;> rename_i h <;> simp at h <;> simp [h]
  all_goals omega
theorem s_l1In (n lo hi : YI) : V_s_l1In n lo hi = some (inR n.1 lo.1 hi.1, ()) := by
  unfold V_s_l1In T_s_l1In inR
  simp only [val_br, val_leaf, br_i]
  split <;> rename_i h <;> simp at h <;> simp [h]
  all_goals omega
def sameB (a b : List YB) : Bool := decide (bstr a = bstr b)
theorem s_l1Same (a b : YBs) : V_s_l1Same a b = some (sameB a.1 b.1, ()) := rfl
theorem bytes_Equal (a b : YBs) : V_bytes_Equal a b = some (sameB a.1 b.1, ()) := rfl
theorem ok_Live (t : YTab) (h : t.2.1.length ≤ 4294967296) : ∃ r, V_i_Live t = some r ∧ V_s_Live t = some r := by
  obtain ⟨cap, l, _⟩ := t
  simp only at h
  obtain ⟨o1, o2, h1, h2, hq⟩ := lockstep (B1 := B_i_Live_3) (B2 := B_s_Live_3)
    (fun i d1 d2 => ∃ n : Int, 0 ≤ n ∧ n ≤ i ∧ d1 = (n, l, (l.length : Int), (i : Int), ()) ∧ d2 = (n, (i : Int), cap, l, ())) (fun o1 o2 => o1 = o2) l.length
    (by
      rintro i d1 d2 hi ⟨n, h0, h1, rfl, rfl⟩
      have hx := List.getElem?_eq_getElem hi
      left
      unfold B_i_Live_3 B_s_Live_3
      simp (disch := omega) only [val_br, val_ob, val_leaf, lt_dec hi, br_t, idx_at hx, ob_s, w64]
      simp only [br_i]
      split
      · exact ⟨_, _, rfl, rfl, n + 1, by omega, by omega, rfl, rfl⟩
      · exact ⟨_, _, rfl, rfl, n, by omega, by omega, rfl, rfl⟩)
    (by
      rintro d1 d2 ⟨n, h0, h1, rfl, rfl⟩
      unfold B_i_Live_3 B_s_Live_3
      simp only [val_br, val_ob, val_leaf, ge_dec, br_f]
      exact ⟨_, _, rfl, rfl, rfl⟩)
    (d1 := ((0 : Int), l, (l.length : Int), (0 : Int), ())) (d2 := ((0 : Int), (0 : Int), cap, l, ())) ⟨0, by omega, by omega, rfl, rfl⟩
  subst hq
  refine ⟨(o1.1, ()), ?_, ?_⟩
  · unfold V_i_Live T_i_Live
    simp only [val_ob, val_leaf, h1, ob_s]
  · unfold V_s_Live T_s_Live
    simp only [val_ob, val_leaf, h2, ob_s]
end
end Go.Proofs.YtdlcjpjflckdlaaGreat

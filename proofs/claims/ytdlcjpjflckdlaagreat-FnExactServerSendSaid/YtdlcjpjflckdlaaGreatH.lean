/-
  That the program and the reference answer alike, in plain terms, and that the laws answer true.
-/
import Derived.Test.YtdlcjpjflckdlaaGreatW
namespace Go.Proofs.YtdlcjpjflckdlaaGreat
open Go.RowKit
set_option linter.unusedVariables false
set_option linter.unusedSimpArgs false
set_option maxHeartbeats 4000000
noncomputable section
theorem idx_at {α : Type} {l : List α} {i : Nat} {x : α} (h : l[i]? = some x) : idx l (i : Int) = some x := (idx_n l i).trans h
theorem idx_set {α : Type} {l : List α} {i : Nat} {x : α} (h : i < l.length) : idx (l.set i x) (i : Int) = some x := by rw [idx_n, List.getElem?_set_self h]
theorem lt_dec {i n : Nat} (h : i < n) : decide ((i : Int) < (n : Int)) = true := by simpa using h
theorem ge_dec (n : Nat) : decide ((n : Int) < (n : Int)) = false := by simp
theorem bne_self {α : Type} [BEq α] [LawfulBEq α] (a : α) : (a != a) = false := by simp
theorem nn_dec {k : Int} (h : 0 ≤ k) : decide (k < 0) = false := by simpa using h
theorem dec_t {p : Prop} [Decidable p] (h : p) : decide p = true := by simpa using h
theorem dec_f {p : Prop} [Decidable p] (h : ¬ p) : decide p = false := by simpa using h
theorem len_le_sumN {E : Type} {w : E → Nat} (h : ∀ x, 1 ≤ w x) : ∀ l : List E, l.length ≤ sumN w l
  | [] => by simp [sumN]
  | x :: r => by simp only [sumN, List.length_cons]; have := h x; have := len_le_sumN h r; omega
theorem br_ff {ρ : Type} {b : Bool} {x y : Option ρ} (h : b = false) : br b x y = y := by subst h; rfl
theorem br_tt {ρ : Type} {b : Bool} {x y : Option ρ} (h : b = true) : br b x y = x := by subst h; rfl
theorem ml {n : Nat} (h : n ≤ maxLen) : n ≤ 9223372036854775807 := by unfold maxLen at h; omega
def w_B (d : YB) : Nat := 1
def m_B (d : YB) (k : Int) : YB := (IntKind.u8.wrap k, ())
def w_I (d : YI) : Nat := 1
def m_I (d : YI) (k : Int) : YI := (k, ())
abbrev YJar : Type := YBs
def need_Bs (d : YBs) : Nat := d.1.length
def lo_Bs (d : YBs) : Prop := d.1.length ≤ 9223372036854775807
def w_Bs (d : YBs) : Nat := sumN w_B d.1
def m_Bs (d : YBs) (k : Int) : YBs := (mkL m_B w_B d.1 (k), ())
theorem w_le_Bs (d : YBs) : w_Bs d ≤ 32 * need_Bs d + 32 := by
  have h0 := sumN_le1 (f := w_B) (fun _ => by simp [w_B]) d.1
  simp only [w_Bs, need_Bs]; omega
def need_Jar (d : YJar) : Nat := d.1.length
def lo_Jar (d : YJar) : Prop := d.1.length ≤ 9223372036854775807
def wt_Jar (d : YJar) : Nat := sumN w_B d.1
def need_Dice (d : YDice) : Nat := d.1.length
def lo_Dice (d : YDice) : Prop := d.1.length ≤ 9223372036854775807
def wt_Dice (d : YDice) : Nat := sumN w_B d.1
def need_Win (d : YWin) : Nat := d.2.1.length
def lo_Win (d : YWin) : Prop := d.2.1.length ≤ 9223372036854775807
def need_Ep (d : YEp) : Nat := d.2.1.length + d.2.2.2.2.1.length
def lo_Ep (d : YEp) : Prop := d.2.1.length ≤ 9223372036854775807 ∧ d.2.2.2.2.1.length ≤ 9223372036854775807
def need_Chan (d : YChan) : Nat := d.2.1.length + d.2.2.2.1.length + d.2.2.2.2.2.2.1.length + d.2.2.2.2.2.2.2.2.1.length + d.2.2.2.2.2.2.2.2.2.2.2.1.length + d.2.2.2.2.2.2.2.2.2.2.2.2.2.2.1.length
def lo_Chan (d : YChan) : Prop := d.2.1.length ≤ 9223372036854775807 ∧ d.2.2.2.1.length ≤ 9223372036854775807 ∧ d.2.2.2.2.2.2.1.length ≤ 9223372036854775807 ∧ d.2.2.2.2.2.2.2.2.1.length ≤ 9223372036854775807 ∧ d.2.2.2.2.2.2.2.2.2.2.2.1.length ≤ 9223372036854775807 ∧ d.2.2.2.2.2.2.2.2.2.2.2.2.2.2.1.length ≤ 9223372036854775807
def need_Cand (d : YCand) : Nat := d.2.2.1.length
def lo_Cand (d : YCand) : Prop := d.2.2.1.length ≤ 9223372036854775807
def w_Cand (d : YCand) : Nat := 1 + 1 + sumN w_B d.2.2.1 + 1
def m_Cand (d : YCand) (k : Int) : YCand := (k, k + 1, mkL m_B w_B d.2.2.1 (k + 1 + 1), k + 1 + 1 + (sumN w_B d.2.2.1 : Nat), ())
theorem w_le_Cand (d : YCand) : w_Cand d ≤ 32 * need_Cand d + 32 := by
  have h2 := sumN_le1 (f := w_B) (fun _ => by simp [w_B]) d.2.2.1
  simp only [w_Cand, need_Cand]; omega
def need_Paths (d : YPaths) : Nat := d.2.2.1.length + sumN need_Cand d.2.2.1
def lo_Paths (d : YPaths) : Prop := d.2.2.1.length ≤ 9223372036854775807 ∧ (∀ (i : Nat) x, d.2.2.1[i]? = some x → lo_Cand x)
def need_Sess (d : YSess) : Nat := d.2.1.length + d.2.2.1.length + d.2.2.2.2.1.length + d.2.2.2.2.2.2.1.length + d.2.2.2.2.2.2.2.2.2.1.length + d.2.2.2.2.2.2.2.2.2.2.2.1.length + d.2.2.2.2.2.2.2.2.2.2.2.2.2.2.1.length + d.2.2.2.2.2.2.2.2.2.2.2.2.2.2.2.2.2.1.length + d.2.2.2.2.2.2.2.2.2.2.2.2.2.2.2.2.2.2.2.2.1.length + sumN need_Cand d.2.2.2.2.2.2.2.2.2.2.2.2.2.2.2.2.2.2.2.2.1
def lo_Sess (d : YSess) : Prop := d.2.1.length ≤ 9223372036854775807 ∧ d.2.2.1.length ≤ 9223372036854775807 ∧ d.2.2.2.2.1.length ≤ 9223372036854775807 ∧ d.2.2.2.2.2.2.1.length ≤ 9223372036854775807 ∧ d.2.2.2.2.2.2.2.2.2.1.length ≤ 9223372036854775807 ∧ d.2.2.2.2.2.2.2.2.2.2.2.1.length ≤ 9223372036854775807 ∧ d.2.2.2.2.2.2.2.2.2.2.2.2.2.2.1.length ≤ 9223372036854775807 ∧ d.2.2.2.2.2.2.2.2.2.2.2.2.2.2.2.2.2.1.length ≤ 9223372036854775807 ∧ d.2.2.2.2.2.2.2.2.2.2.2.2.2.2.2.2.2.2.2.2.1.length ≤ 9223372036854775807 ∧ (∀ (i : Nat) x, d.2.2.2.2.2.2.2.2.2.2.2.2.2.2.2.2.2.2.2.2.1[i]? = some x → lo_Cand x)
def w_Sess (d : YSess) : Nat := 1 + sumN w_B d.2.1 + sumN w_B d.2.2.1 + 1 + sumN w_B d.2.2.2.2.1 + 1 + sumN w_B d.2.2.2.2.2.2.1 + 1 + 1 + sumN w_I d.2.2.2.2.2.2.2.2.2.1 + 1 + sumN w_B d.2.2.2.2.2.2.2.2.2.2.2.1 + 1 + 1 + sumN w_I d.2.2.2.2.2.2.2.2.2.2.2.2.2.2.1 + 1 + 1 + sumN w_B d.2.2.2.2.2.2.2.2.2.2.2.2.2.2.2.2.2.1 + 1 + 1 + sumN w_Cand d.2.2.2.2.2.2.2.2.2.2.2.2.2.2.2.2.2.2.2.2.1 + 1 + 1 + 1
def m_Sess (d : YSess) (k : Int) : YSess := (k, mkL m_B w_B d.2.1 (k + 1), mkL m_B w_B d.2.2.1 (k + 1 + (sumN w_B d.2.1 : Nat)), k + 1 + (sumN w_B d.2.1 : Nat) + (sumN w_B d.2.2.1 : Nat), mkL m_B w_B d.2.2.2.2.1 (k + 1 + (sumN w_B d.2.1 : Nat) + (sumN w_B d.2.2.1 : Nat) + 1), k + 1 + (sumN w_B d.2.1 : Nat) + (sumN w_B d.2.2.1 : Nat) + 1 + (sumN w_B d.2.2.2.2.1 : Nat), mkL m_B w_B d.2.2.2.2.2.2.1 (k + 1 + (sumN w_B d.2.1 : Nat) + (sumN w_B d.2.2.1 : Nat) + 1 + (sumN w_B d.2.2.2.2.1 : Nat) + 1), k + 1 + (sumN w_B d.2.1 : Nat) + (sumN w_B d.2.2.1 : Nat) + 1 + (sumN w_B d.2.2.2.2.1 : Nat) + 1 + (sumN w_B d.2.2.2.2.2.2.1 : Nat), k + 1 + (sumN w_B d.2.1 : Nat) + (sumN w_B d.2.2.1 : Nat) + 1 + (sumN w_B d.2.2.2.2.1 : Nat) + 1 + (sumN w_B d.2.2.2.2.2.2.1 : Nat) + 1, mkL m_I w_I d.2.2.2.2.2.2.2.2.2.1 (k + 1 + (sumN w_B d.2.1 : Nat) + (sumN w_B d.2.2.1 : Nat) + 1 + (sumN w_B d.2.2.2.2.1 : Nat) + 1 + (sumN w_B d.2.2.2.2.2.2.1 : Nat) + 1 + 1), k + 1 + (sumN w_B d.2.1 : Nat) + (sumN w_B d.2.2.1 : Nat) + 1 + (sumN w_B d.2.2.2.2.1 : Nat) + 1 + (sumN w_B d.2.2.2.2.2.2.1 : Nat) + 1 + 1 + (sumN w_I d.2.2.2.2.2.2.2.2.2.1 : Nat), mkL m_B w_B d.2.2.2.2.2.2.2.2.2.2.2.1 (k + 1 + (sumN w_B d.2.1 : Nat) + (sumN w_B d.2.2.1 : Nat) + 1 + (sumN w_B d.2.2.2.2.1 : Nat) + 1 + (sumN w_B d.2.2.2.2.2.2.1 : Nat) + 1 + 1 + (sumN w_I d.2.2.2.2.2.2.2.2.2.1 : Nat) + 1), k + 1 + (sumN w_B d.2.1 : Nat) + (sumN w_B d.2.2.1 : Nat) + 1 + (sumN w_B d.2.2.2.2.1 : Nat) + 1 + (sumN w_B d.2.2.2.2.2.2.1 : Nat) + 1 + 1 + (sumN w_I d.2.2.2.2.2.2.2.2.2.1 : Nat) + 1 + (sumN w_B d.2.2.2.2.2.2.2.2.2.2.2.1 : Nat), k + 1 + (sumN w_B d.2.1 : Nat) + (sumN w_B d.2.2.1 : Nat) + 1 + (sumN w_B d.2.2.2.2.1 : Nat) + 1 + (sumN w_B d.2.2.2.2.2.2.1 : Nat) + 1 + 1 + (sumN w_I d.2.2.2.2.2.2.2.2.2.1 : Nat) + 1 + (sumN w_B d.2.2.2.2.2.2.2.2.2.2.2.1 : Nat) + 1, mkL m_I w_I d.2.2.2.2.2.2.2.2.2.2.2.2.2.2.1 (k + 1 + (sumN w_B d.2.1 : Nat) + (sumN w_B d.2.2.1 : Nat) + 1 + (sumN w_B d.2.2.2.2.1 : Nat) + 1 + (sumN w_B d.2.2.2.2.2.2.1 : Nat) + 1 + 1 + (sumN w_I d.2.2.2.2.2.2.2.2.2.1 : Nat) + 1 + (sumN w_B d.2.2.2.2.2.2.2.2.2.2.2.1 : Nat) + 1 + 1), ((k + 1 + (sumN w_B d.2.1 : Nat) + (sumN w_B d.2.2.1 : Nat) + 1 + (sumN w_B d.2.2.2.2.1 : Nat) + 1 + (sumN w_B d.2.2.2.2.2.2.1 : Nat) + 1 + 1 + (sumN w_I d.2.2.2.2.2.2.2.2.2.1 : Nat) + 1 + (sumN w_B d.2.2.2.2.2.2.2.2.2.2.2.1 : Nat) + 1 + 1 + (sumN w_I d.2.2.2.2.2.2.2.2.2.2.2.2.2.2.1 : Nat)) % (3 : Int)) == (0 : Int), k + 1 + (sumN w_B d.2.1 : Nat) + (sumN w_B d.2.2.1 : Nat) + 1 + (sumN w_B d.2.2.2.2.1 : Nat) + 1 + (sumN w_B d.2.2.2.2.2.2.1 : Nat) + 1 + 1 + (sumN w_I d.2.2.2.2.2.2.2.2.2.1 : Nat) + 1 + (sumN w_B d.2.2.2.2.2.2.2.2.2.2.2.1 : Nat) + 1 + 1 + (sumN w_I d.2.2.2.2.2.2.2.2.2.2.2.2.2.2.1 : Nat) + 1, mkL m_B w_B d.2.2.2.2.2.2.2.2.2.2.2.2.2.2.2.2.2.1 (k + 1 + (sumN w_B d.2.1 : Nat) + (sumN w_B d.2.2.1 : Nat) + 1 + (sumN w_B d.2.2.2.2.1 : Nat) + 1 + (sumN w_B d.2.2.2.2.2.2.1 : Nat) + 1 + 1 + (sumN w_I d.2.2.2.2.2.2.2.2.2.1 : Nat) + 1 + (sumN w_B d.2.2.2.2.2.2.2.2.2.2.2.1 : Nat) + 1 + 1 + (sumN w_I d.2.2.2.2.2.2.2.2.2.2.2.2.2.2.1 : Nat) + 1 + 1), k + 1 + (sumN w_B d.2.1 : Nat) + (sumN w_B d.2.2.1 : Nat) + 1 + (sumN w_B d.2.2.2.2.1 : Nat) + 1 + (sumN w_B d.2.2.2.2.2.2.1 : Nat) + 1 + 1 + (sumN w_I d.2.2.2.2.2.2.2.2.2.1 : Nat) + 1 + (sumN w_B d.2.2.2.2.2.2.2.2.2.2.2.1 : Nat) + 1 + 1 + (sumN w_I d.2.2.2.2.2.2.2.2.2.2.2.2.2.2.1 : Nat) + 1 + 1 + (sumN w_B d.2.2.2.2.2.2.2.2.2.2.2.2.2.2.2.2.2.1 : Nat), k + 1 + (sumN w_B d.2.1 : Nat) + (sumN w_B d.2.2.1 : Nat) + 1 + (sumN w_B d.2.2.2.2.1 : Nat) + 1 + (sumN w_B d.2.2.2.2.2.2.1 : Nat) + 1 + 1 + (sumN w_I d.2.2.2.2.2.2.2.2.2.1 : Nat) + 1 + (sumN w_B d.2.2.2.2.2.2.2.2.2.2.2.1 : Nat) + 1 + 1 + (sumN w_I d.2.2.2.2.2.2.2.2.2.2.2.2.2.2.1 : Nat) + 1 + 1 + (sumN w_B d.2.2.2.2.2.2.2.2.2.2.2.2.2.2.2.2.2.1 : Nat) + 1, mkL m_Cand w_Cand d.2.2.2.2.2.2.2.2.2.2.2.2.2.2.2.2.2.2.2.2.1 (k + 1 + (sumN w_B d.2.1 : Nat) + (sumN w_B d.2.2.1 : Nat) + 1 + (sumN w_B d.2.2.2.2.1 : Nat) + 1 + (sumN w_B d.2.2.2.2.2.2.1 : Nat) + 1 + 1 + (sumN w_I d.2.2.2.2.2.2.2.2.2.1 : Nat) + 1 + (sumN w_B d.2.2.2.2.2.2.2.2.2.2.2.1 : Nat) + 1 + 1 + (sumN w_I d.2.2.2.2.2.2.2.2.2.2.2.2.2.2.1 : Nat) + 1 + 1 + (sumN w_B d.2.2.2.2.2.2.2.2.2.2.2.2.2.2.2.2.2.1 : Nat) + 1 + 1), k + 1 + (sumN w_B d.2.1 : Nat) + (sumN w_B d.2.2.1 : Nat) + 1 + (sumN w_B d.2.2.2.2.1 : Nat) + 1 + (sumN w_B d.2.2.2.2.2.2.1 : Nat) + 1 + 1 + (sumN w_I d.2.2.2.2.2.2.2.2.2.1 : Nat) + 1 + (sumN w_B d.2.2.2.2.2.2.2.2.2.2.2.1 : Nat) + 1 + 1 + (sumN w_I d.2.2.2.2.2.2.2.2.2.2.2.2.2.2.1 : Nat) + 1 + 1 + (sumN w_B d.2.2.2.2.2.2.2.2.2.2.2.2.2.2.2.2.2.1 : Nat) + 1 + 1 + (sumN w_Cand d.2.2.2.2.2.2.2.2.2.2.2.2.2.2.2.2.2.2.2.2.1 : Nat), k + 1 + (sumN w_B d.2.1 : Nat) + (sumN w_B d.2.2.1 : Nat) + 1 + (sumN w_B d.2.2.2.2.1 : Nat) + 1 + (sumN w_B d.2.2.2.2.2.2.1 : Nat) + 1 + 1 + (sumN w_I d.2.2.2.2.2.2.2.2.2.1 : Nat) + 1 + (sumN w_B d.2.2.2.2.2.2.2.2.2.2.2.1 : Nat) + 1 + 1 + (sumN w_I d.2.2.2.2.2.2.2.2.2.2.2.2.2.2.1 : Nat) + 1 + 1 + (sumN w_B d.2.2.2.2.2.2.2.2.2.2.2.2.2.2.2.2.2.1 : Nat) + 1 + 1 + (sumN w_Cand d.2.2.2.2.2.2.2.2.2.2.2.2.2.2.2.2.2.2.2.2.1 : Nat) + 1, ((k + 1 + (sumN w_B d.2.1 : Nat) + (sumN w_B d.2.2.1 : Nat) + 1 + (sumN w_B d.2.2.2.2.1 : Nat) + 1 + (sumN w_B d.2.2.2.2.2.2.1 : Nat) + 1 + 1 + (sumN w_I d.2.2.2.2.2.2.2.2.2.1 : Nat) + 1 + (sumN w_B d.2.2.2.2.2.2.2.2.2.2.2.1 : Nat) + 1 + 1 + (sumN w_I d.2.2.2.2.2.2.2.2.2.2.2.2.2.2.1 : Nat) + 1 + 1 + (sumN w_B d.2.2.2.2.2.2.2.2.2.2.2.2.2.2.2.2.2.1 : Nat) + 1 + 1 + (sumN w_Cand d.2.2.2.2.2.2.2.2.2.2.2.2.2.2.2.2.2.2.2.2.1 : Nat) + 1 + 1) % (3 : Int)) == (0 : Int), ())
theorem w_le_Sess (d : YSess) : w_Sess d ≤ 32 * need_Sess d + 32 := by
  have h1 := sumN_le1 (f := w_B) (fun _ => by simp [w_B]) d.2.1
  have h2 := sumN_le1 (f := w_B) (fun _ => by simp [w_B]) d.2.2.1
  have h4 := sumN_le1 (f := w_B) (fun _ => by simp [w_B]) d.2.2.2.2.1
  have h6 := sumN_le1 (f := w_B) (fun _ => by simp [w_B]) d.2.2.2.2.2.2.1
  have h9 := sumN_le1 (f := w_I) (fun _ => by simp [w_I]) d.2.2.2.2.2.2.2.2.2.1
  have h11 := sumN_le1 (f := w_B) (fun _ => by simp [w_B]) d.2.2.2.2.2.2.2.2.2.2.2.1
  have h14 := sumN_le1 (f := w_I) (fun _ => by simp [w_I]) d.2.2.2.2.2.2.2.2.2.2.2.2.2.2.1
  have h17 := sumN_le1 (f := w_B) (fun _ => by simp [w_B]) d.2.2.2.2.2.2.2.2.2.2.2.2.2.2.2.2.2.1
  have h20 := sumN_le (f := w_Cand) (g := need_Cand) w_le_Cand d.2.2.2.2.2.2.2.2.2.2.2.2.2.2.2.2.2.2.2.2.1
  simp only [w_Sess, need_Sess]; omega
def need_Tab (d : YTab) : Nat := d.2.1.length + sumN need_Sess d.2.1
def lo_Tab (d : YTab) : Prop := d.2.1.length ≤ 9223372036854775807 ∧ (∀ (i : Nat) x, d.2.1[i]? = some x → lo_Sess x)
def wt_Tab (d : YTab) : Nat := sumN w_Sess d.2.1
def need_Credit (d : YCredit) : Nat := 0
def lo_Credit (d : YCredit) : Prop := True
def w_Credit (d : YCredit) : Nat := 1 + 1 + 1 + 1
def m_Credit (d : YCredit) (k : Int) : YCredit := (k, k + 1, k + 1 + 1, k + 1 + 1 + 1, ())
def need_Server (d : YServer) : Nat := d.1.length + sumN need_Bs d.1 + d.2.1.length + d.2.2.1.length + d.2.2.2.2.2.1.length + sumN need_Sess d.2.2.2.2.2.1 + d.2.2.2.2.2.2.1.length
def lo_Server (d : YServer) : Prop := d.1.length ≤ 9223372036854775807 ∧ (∀ (i : Nat) x, d.1[i]? = some x → lo_Bs x) ∧ d.2.1.length ≤ 9223372036854775807 ∧ d.2.2.1.length ≤ 9223372036854775807 ∧ d.2.2.2.2.2.1.length ≤ 9223372036854775807 ∧ (∀ (i : Nat) x, d.2.2.2.2.2.1[i]? = some x → lo_Sess x) ∧ d.2.2.2.2.2.2.1.length ≤ 9223372036854775807
def wt_Server (d : YServer) : Nat := sumN w_Bs d.1 + sumN w_B d.2.1 + sumN w_B d.2.2.1 + sumN w_Sess d.2.2.2.2.2.1 + sumN w_Credit d.2.2.2.2.2.2.1
theorem wt_le_Server (d : YServer) : wt_Server d ≤ 32 * need_Server d + 32 := by
  have h0 := sumN_le (f := w_Bs) (g := need_Bs) w_le_Bs d.1
  have h1 := sumN_le1 (f := w_B) (fun _ => by simp [w_B]) d.2.1
  have h2 := sumN_le1 (f := w_B) (fun _ => by simp [w_B]) d.2.2.1
  have h5 := sumN_le (f := w_Sess) (g := need_Sess) w_le_Sess d.2.2.2.2.2.1
  have h6 := sumN_le1 (f := w_Credit) (fun _ => by simp [w_Credit]) d.2.2.2.2.2.2.1
  simp only [wt_Server, need_Server]; omega
def need_Addr (d : YAddr) : Nat := 0
def lo_Addr (d : YAddr) : Prop := True
def need_Frame (d : YFrame) : Nat := d.2.2.1.length + d.2.2.2.1.length + d.2.2.2.2.2.1.length + d.2.2.2.2.2.2.1.length + d.2.2.2.2.2.2.2.2.2.1.length + d.2.2.2.2.2.2.2.2.2.2.1.length
def need_Out (d : YOut) : Nat := d.2.2.2.2.1.length + d.2.2.2.2.2.1.length + d.2.2.2.2.2.2.2.1.length + d.2.2.2.2.2.2.2.2.1.length + d.2.2.2.2.2.2.2.2.2.2.2.1.length + d.2.2.2.2.2.2.2.2.2.2.2.2.1.length
def w_Out (d : YOut) : Nat := 1 + 1 + 1 + 1 + sumN w_B d.2.2.2.2.1 + sumN w_B d.2.2.2.2.2.1 + 1 + sumN w_B d.2.2.2.2.2.2.2.1 + sumN w_B d.2.2.2.2.2.2.2.2.1 + 1 + 1 + sumN w_B d.2.2.2.2.2.2.2.2.2.2.2.1 + sumN w_B d.2.2.2.2.2.2.2.2.2.2.2.2.1
def m_Out (d : YOut) (k : Int) : YOut := (k, k + 1, k + 1 + 1, k + 1 + 1 + 1, mkL m_B w_B d.2.2.2.2.1 (k + 1 + 1 + 1 + 1), mkL m_B w_B d.2.2.2.2.2.1 (k + 1 + 1 + 1 + 1 + (sumN w_B d.2.2.2.2.1 : Nat)), k + 1 + 1 + 1 + 1 + (sumN w_B d.2.2.2.2.1 : Nat) + (sumN w_B d.2.2.2.2.2.1 : Nat), mkL m_B w_B d.2.2.2.2.2.2.2.1 (k + 1 + 1 + 1 + 1 + (sumN w_B d.2.2.2.2.1 : Nat) + (sumN w_B d.2.2.2.2.2.1 : Nat) + 1), mkL m_B w_B d.2.2.2.2.2.2.2.2.1 (k + 1 + 1 + 1 + 1 + (sumN w_B d.2.2.2.2.1 : Nat) + (sumN w_B d.2.2.2.2.2.1 : Nat) + 1 + (sumN w_B d.2.2.2.2.2.2.2.1 : Nat)), k + 1 + 1 + 1 + 1 + (sumN w_B d.2.2.2.2.1 : Nat) + (sumN w_B d.2.2.2.2.2.1 : Nat) + 1 + (sumN w_B d.2.2.2.2.2.2.2.1 : Nat) + (sumN w_B d.2.2.2.2.2.2.2.2.1 : Nat), k + 1 + 1 + 1 + 1 + (sumN w_B d.2.2.2.2.1 : Nat) + (sumN w_B d.2.2.2.2.2.1 : Nat) + 1 + (sumN w_B d.2.2.2.2.2.2.2.1 : Nat) + (sumN w_B d.2.2.2.2.2.2.2.2.1 : Nat) + 1, mkL m_B w_B d.2.2.2.2.2.2.2.2.2.2.2.1 (k + 1 + 1 + 1 + 1 + (sumN w_B d.2.2.2.2.1 : Nat) + (sumN w_B d.2.2.2.2.2.1 : Nat) + 1 + (sumN w_B d.2.2.2.2.2.2.2.1 : Nat) + (sumN w_B d.2.2.2.2.2.2.2.2.1 : Nat) + 1 + 1), mkL m_B w_B d.2.2.2.2.2.2.2.2.2.2.2.2.1 (k + 1 + 1 + 1 + 1 + (sumN w_B d.2.2.2.2.1 : Nat) + (sumN w_B d.2.2.2.2.2.1 : Nat) + 1 + (sumN w_B d.2.2.2.2.2.2.2.1 : Nat) + (sumN w_B d.2.2.2.2.2.2.2.2.1 : Nat) + 1 + 1 + (sumN w_B d.2.2.2.2.2.2.2.2.2.2.2.1 : Nat)), ())
theorem w_le_Out (d : YOut) : w_Out d ≤ 32 * need_Out d + 32 := by
  have h4 := sumN_le1 (f := w_B) (fun _ => by simp [w_B]) d.2.2.2.2.1
  have h5 := sumN_le1 (f := w_B) (fun _ => by simp [w_B]) d.2.2.2.2.2.1
  have h7 := sumN_le1 (f := w_B) (fun _ => by simp [w_B]) d.2.2.2.2.2.2.2.1
  have h8 := sumN_le1 (f := w_B) (fun _ => by simp [w_B]) d.2.2.2.2.2.2.2.2.1
  have h11 := sumN_le1 (f := w_B) (fun _ => by simp [w_B]) d.2.2.2.2.2.2.2.2.2.2.2.1
  have h12 := sumN_le1 (f := w_B) (fun _ => by simp [w_B]) d.2.2.2.2.2.2.2.2.2.2.2.2.1
  simp only [w_Out, need_Out]; omega
def need_Note (d : YNote) : Nat := d.2.2.2.1.length + d.2.2.2.2.1.length + d.2.2.2.2.2.2.2.1.length + d.2.2.2.2.2.2.2.2.1.length
def w_Note (d : YNote) : Nat := 1 + 1 + 1 + sumN w_B d.2.2.2.1 + sumN w_B d.2.2.2.2.1 + 1 + 1 + sumN w_B d.2.2.2.2.2.2.2.1 + sumN w_B d.2.2.2.2.2.2.2.2.1 + 1 + 1 + 1
def m_Note (d : YNote) (k : Int) : YNote := (k, k + 1, k + 1 + 1, mkL m_B w_B d.2.2.2.1 (k + 1 + 1 + 1), mkL m_B w_B d.2.2.2.2.1 (k + 1 + 1 + 1 + (sumN w_B d.2.2.2.1 : Nat)), k + 1 + 1 + 1 + (sumN w_B d.2.2.2.1 : Nat) + (sumN w_B d.2.2.2.2.1 : Nat), k + 1 + 1 + 1 + (sumN w_B d.2.2.2.1 : Nat) + (sumN w_B d.2.2.2.2.1 : Nat) + 1, mkL m_B w_B d.2.2.2.2.2.2.2.1 (k + 1 + 1 + 1 + (sumN w_B d.2.2.2.1 : Nat) + (sumN w_B d.2.2.2.2.1 : Nat) + 1 + 1), mkL m_B w_B d.2.2.2.2.2.2.2.2.1 (k + 1 + 1 + 1 + (sumN w_B d.2.2.2.1 : Nat) + (sumN w_B d.2.2.2.2.1 : Nat) + 1 + 1 + (sumN w_B d.2.2.2.2.2.2.2.1 : Nat)), k + 1 + 1 + 1 + (sumN w_B d.2.2.2.1 : Nat) + (sumN w_B d.2.2.2.2.1 : Nat) + 1 + 1 + (sumN w_B d.2.2.2.2.2.2.2.1 : Nat) + (sumN w_B d.2.2.2.2.2.2.2.2.1 : Nat), k + 1 + 1 + 1 + (sumN w_B d.2.2.2.1 : Nat) + (sumN w_B d.2.2.2.2.1 : Nat) + 1 + 1 + (sumN w_B d.2.2.2.2.2.2.2.1 : Nat) + (sumN w_B d.2.2.2.2.2.2.2.2.1 : Nat) + 1, k + 1 + 1 + 1 + (sumN w_B d.2.2.2.1 : Nat) + (sumN w_B d.2.2.2.2.1 : Nat) + 1 + 1 + (sumN w_B d.2.2.2.2.2.2.2.1 : Nat) + (sumN w_B d.2.2.2.2.2.2.2.2.1 : Nat) + 1 + 1, ())
theorem w_le_Note (d : YNote) : w_Note d ≤ 32 * need_Note d + 32 := by
  have h3 := sumN_le1 (f := w_B) (fun _ => by simp [w_B]) d.2.2.2.1
  have h4 := sumN_le1 (f := w_B) (fun _ => by simp [w_B]) d.2.2.2.2.1
  have h7 := sumN_le1 (f := w_B) (fun _ => by simp [w_B]) d.2.2.2.2.2.2.2.1
  have h8 := sumN_le1 (f := w_B) (fun _ => by simp [w_B]) d.2.2.2.2.2.2.2.2.1
  simp only [w_Note, need_Note]; omega
theorem sz_ByteS (d : List YB × Unit) (n : Int) (h0 : -1 ≤ n) (h1 : n ≤ 1099511627776) (hl : d.1.length ≤ 9223372036854775807) : V_l_szByteS d (n, ()) = some (szR (d.1.length) n, ()) := by
  unfold V_l_szByteS T_l_szByteS
  simp only [val_br, val_leaf]
  simp (disch := omega) only [w64]
  unfold szR
  rw [br_i]
  by_cases h : (d.1.length : Int) ≤ n
  · simp only [decide_eq_true_eq, if_neg (show ¬ (n - (d.1.length : Int) < 0) by omega), if_pos h]
  · simp only [decide_eq_true_eq, if_pos (show n - (d.1.length : Int) < 0 by omega), if_neg h]
theorem to_ByteS (d : List YB × Unit) (h : d.1.length ≤ 4294967296) : V_l_toByteS d = some d := by
  have e := fun (m : List YB) (hm : m.length = d.1.length) => loop_to (B := B_l_toByteS_3) (m := m) (l := d.1) (ok := fun _ => True) (fun m i x y hx hi hy => by
    unfold B_l_toByteS_3
    simp only [val_br, val_ob, val_leaf, val_chk, val_sm, lt_dec hi, br_t, idx_at hx, idx_at hy, ob_s, Int.toNat_natCast]
    rw [w64 (by omega)]) (fun m => by
    unfold B_l_toByteS_3
    simp only [val_br, val_ob, val_leaf, val_chk, val_sm, ge_dec, br_f]) hm
  unfold V_l_toByteS T_l_toByteS
  simp only [val_br, val_ob, val_leaf, val_chk, val_sm, decide_true]
  rw [dec_t (by omega), dec_t (by omega), chk_t, chk_t, chk_t, e _ (by simp)]
  rfl
theorem eq_ByteS (d : List YB × Unit) (h : d.1.length ≤ 4294967296) : V_l_eqByteS d d = some (true, ()) := by
  have e := loop_eq (B := B_l_eqByteS_4) (l := d.1) (fun i x hx hi => by
    unfold B_l_eqByteS_4
    simp only [val_br, val_ob, val_leaf, val_chk, val_sm, lt_dec hi, br_t, idx_at hx, ob_s, bne_self, br_f]
    rw [w64 (by omega)]) (by
    unfold B_l_eqByteS_4
    simp only [val_br, val_ob, val_leaf, val_chk, val_sm, ge_dec, br_f])
  unfold V_l_eqByteS T_l_eqByteS
  simp only [val_br, val_ob, val_leaf, val_chk, val_sm, bne_self, br_f]
  rw [e]
  rfl
theorem mark_ByteS (d : List YB × Unit) (k : Int) (h0 : 0 ≤ k) (h1 : k + (sumN w_B d.1 : Nat) ≤ 4611686018427387904) : V_l_markByteS d (k, ()) = some ((k + (sumN w_B d.1 : Nat), ()), (mkL m_B w_B d.1 k, ())) := by
  have hl := len_le_sumN (w := w_B) (fun x => by simp only [w_B]; omega) d.1
  have e := loop_mark (B := B_l_markByteS_2) m_B w_B (l := d.1) (fun t k i x ht hx hlen h0 h1 hi => by
    have hit : i < t.length := by omega
    have hk : k + ((w_B x : Nat) : Int) = k + 1 := by simp only [w_B]; all_goals omega
    rw [hk]
    unfold B_l_markByteS_2
    simp (maxSteps := 4000000) only [val_br, val_ob, val_leaf, val_chk, val_sm, lt_dec hit, br_t, idx_at ht, ob_s, Int.toNat_natCast]
    simp only [w_B] at *
    simp (maxSteps := 4000000) (disch := first | omega | (dsimp only; omega) | (simp only [List.length_set]; omega)) only [w64, idx_set, List.set_set, ob_s, Int.toNat_natCast, chk_t, dec_t]
    rfl) (fun t k hlen => by
    unfold B_l_markByteS_2
    exact (val_br _ _ _).trans ((br_ff (by simp [hlen])).trans rfl)) h0 h1
  unfold V_l_markByteS T_l_markByteS
  simp only [val_br, val_ob, val_leaf, val_chk, val_sm]
  rw [e]
  rfl
theorem held_ByteS (d : List YB) (k : Int) (h0 : 0 ≤ k) (h1 : k + (sumN w_B d : Nat) ≤ 4611686018427387904) : V_l_heldByteS (mkL m_B w_B d k, ()) (k, ()) = some (k + (sumN w_B d : Nat), ()) := by
  have hl := len_le_sumN (w := w_B) (fun x => by simp only [w_B]; omega) d
  have e := loop_held (B := B_l_heldByteS_2) m_B w_B (l := d) (k := k) (fun k i x ht hx h0 h1 hi => by
    have hk : k + ((w_B x : Nat) : Int) = k + 1 := by simp only [w_B]; all_goals omega
    rw [hk]
    unfold B_l_heldByteS_2
    simp only [val_br, val_ob, val_leaf, val_chk, val_sm, mkL_len, lt_dec hi, br_t, idx_at ht, ob_s, m_B, bne_self, br_f]
    simp only [w_B] at *
    simp (maxSteps := 4000000) (disch := first | omega | (dsimp only; omega)) only [w64, ob_s, bne_self, beq_self_eq_true, Bool.not_true, br_f, nn_dec, chk_t, dec_t]) (fun k => by
    unfold B_l_heldByteS_2
    simp only [val_br, val_ob, val_leaf, val_chk, val_sm, mkL_len, ge_dec, br_f]) h0 h1
  unfold V_l_heldByteS T_l_heldByteS
  simp only [val_br, val_ob, val_leaf, val_chk, val_sm]
  rw [e]
  rfl
theorem sz_ByteSS (d : List YBs × Unit) (n : Int) (h0 : -1 ≤ n) (h1 : n ≤ 1099511627776) (hl : d.1.length ≤ 9223372036854775807 ∧ (∀ (i : Nat) x, d.1[i]? = some x → lo_Bs x)) : V_l_szByteSS d (n, ()) = some (szR (d.1.length + sumN need_Bs d.1) n, ()) := by
  obtain ⟨hl1, hl2⟩ := hl
  unfold V_l_szByteSS T_l_szByteSS
  simp only [val_br, val_ob, val_leaf, val_chk, val_sm]
  rw [w64 (by omega)]
  by_cases h : (d.1.length : Int) ≤ n
  · rw [dec_f (by omega), br_f, loop_sz need_Bs (l := d.1) (fun n' i x hx hi h0' h1' => by
        have hlx := hl2 i x hx
        unfold B_l_szByteSS_5
        simp only [val_br, val_ob, val_leaf, val_chk, val_sm, lt_dec hi, br_t, idx_at hx, ob_s]
        rw [sz_ByteS x n' h0' h1' (by exact hlx), ob_s]
        simp only [need_Bs]
        rw [w64 (by omega)]
        rfl) (fun n' => by
        unfold B_l_szByteSS_5
        simp only [val_br, val_ob, val_leaf, val_chk, val_sm, ge_dec, br_f]) (by omega) (by omega), ← szR_szR]
    unfold szR
    rw [if_pos h]
  · rw [dec_t (by omega), br_t]
    unfold szR
    rw [if_neg (by omega)]
theorem to_ByteSS (d : List YBs × Unit) (h : d.1.length + sumN need_Bs d.1 ≤ 4294967296) : V_l_toByteSS d = some d := by
  have e := fun (m : List YBs) (hm : m.length = d.1.length) => loop_to (B := B_l_toByteSS_3) (m := m) (l := d.1) (ok := fun _ => True) (fun m i x y hx hi hy => by
    unfold B_l_toByteSS_3
    simp only [val_br, val_ob, val_leaf, val_chk, val_sm, lt_dec hi, br_t, idx_at hx, idx_at hy, ob_s, Int.toNat_natCast]
    have hx2 := sumN_at (f := need_Bs) hx
    rw [to_ByteS x (by first | omega | (simp only [need_Bs] at *; omega)), ob_s]
    try simp only [idx_at hy, ob_s, Int.toNat_natCast]
    rw [w64 (by omega)]) (fun m => by
    unfold B_l_toByteSS_3
    simp only [val_br, val_ob, val_leaf, val_chk, val_sm, ge_dec, br_f]) hm
  unfold V_l_toByteSS T_l_toByteSS
  simp only [val_br, val_ob, val_leaf, val_chk, val_sm, decide_true]
  rw [dec_t (by omega), dec_t (by omega), chk_t, chk_t, chk_t, e _ (by simp)]
  rfl
theorem eq_ByteSS (d : List YBs × Unit) (h : d.1.length + sumN need_Bs d.1 ≤ 4294967296) : V_l_eqByteSS d d = some (true, ()) := by
  have e := loop_eq (B := B_l_eqByteSS_4) (l := d.1) (fun i x hx hi => by
    unfold B_l_eqByteSS_4
    simp only [val_br, val_ob, val_leaf, val_chk, val_sm, lt_dec hi, br_t, idx_at hx, ob_s, bne_self, br_f]
    have hx2 := sumN_at (f := need_Bs) hx
    rw [eq_ByteS x (by first | omega | (simp only [need_Bs] at *; omega)), ob_s]
    try simp only [Bool.not_true, br_f]
    rw [w64 (by omega)]) (by
    unfold B_l_eqByteSS_4
    simp only [val_br, val_ob, val_leaf, val_chk, val_sm, ge_dec, br_f])
  unfold V_l_eqByteSS T_l_eqByteSS
  simp only [val_br, val_ob, val_leaf, val_chk, val_sm, bne_self, br_f]
  rw [e]
  rfl
theorem mark_ByteSS (d : List YBs × Unit) (k : Int) (h0 : 0 ≤ k) (h1 : k + (sumN w_Bs d.1 : Nat) ≤ 4611686018427387904) (hl : d.1.length ≤ 4294967296) : V_l_markByteSS d (k, ()) = some ((k + (sumN w_Bs d.1 : Nat), ()), (mkL m_Bs w_Bs d.1 k, ())) := by
  have hl := hl
  have e := loop_mark (B := B_l_markByteSS_2) m_Bs w_Bs (l := d.1) (fun t k i x ht hx hlen h0 h1 hi => by
    have hit : i < t.length := by omega
    have hw : w_Bs x = sumN w_B x.1 := rfl
    have hk : k + ((w_Bs x : Nat) : Int) = k + (sumN w_B x.1 : Nat) := by simp only [w_Bs]; all_goals omega
    rw [hk]
    unfold B_l_markByteSS_2
    simp (maxSteps := 4000000) only [val_br, val_ob, val_leaf, val_chk, val_sm, lt_dec hit, br_t, idx_at ht, ob_s, Int.toNat_natCast]
    simp (maxSteps := 4000000) (disch := first | omega | (dsimp only; omega) | (simp only [List.length_set]; omega)) only [w64, idx_set, List.set_set, ob_s, Int.toNat_natCast, chk_t, dec_t, mark_ByteS]
    rfl) (fun t k hlen => by
    unfold B_l_markByteSS_2
    exact (val_br _ _ _).trans ((br_ff (by simp [hlen])).trans rfl)) h0 h1
  unfold V_l_markByteSS T_l_markByteSS
  simp only [val_br, val_ob, val_leaf, val_chk, val_sm]
  rw [e]
  rfl
theorem held_ByteSS (d : List YBs) (k : Int) (h0 : 0 ≤ k) (h1 : k + (sumN w_Bs d : Nat) ≤ 4611686018427387904) (hl : d.length ≤ 4294967296) : V_l_heldByteSS (mkL m_Bs w_Bs d k, ()) (k, ()) = some (k + (sumN w_Bs d : Nat), ()) := by
  have hl := hl
  have e := loop_held (B := B_l_heldByteSS_2) m_Bs w_Bs (l := d) (k := k) (fun k i x ht hx h0 h1 hi => by
    have hk : k + ((w_Bs x : Nat) : Int) = k + (sumN w_B x.1 : Nat) := by simp only [w_Bs]; all_goals omega
    have hw : w_Bs x = sumN w_B x.1 := rfl
    rw [hk]
    unfold B_l_heldByteSS_2
    simp only [val_br, val_ob, val_leaf, val_chk, val_sm, mkL_len, lt_dec hi, br_t, idx_at ht, ob_s, m_Bs, bne_self, br_f]
    simp (maxSteps := 4000000) (disch := first | omega | (dsimp only; omega)) only [w64, ob_s, bne_self, beq_self_eq_true, Bool.not_true, br_f, nn_dec, chk_t, dec_t, held_ByteS]) (fun k => by
    unfold B_l_heldByteSS_2
    simp only [val_br, val_ob, val_leaf, val_chk, val_sm, mkL_len, ge_dec, br_f]) h0 h1
  unfold V_l_heldByteSS T_l_heldByteSS
  simp only [val_br, val_ob, val_leaf, val_chk, val_sm]
  rw [e]
  rfl
theorem sz_Jar (d : YJar) (n : Int) (h0 : -1 ≤ n) (h1 : n ≤ 1099511627776) (hl : lo_Jar d) : V_l_szJar d (n, ()) = some (szR (need_Jar d) n, ()) := by
  unfold lo_Jar at hl
  skip
  unfold V_l_szJar T_l_szJar
  simp only [val_br, val_ob, val_leaf, val_chk, val_sm]
  simp (disch := first | omega | (dsimp only; omega) | exact szR_ge _ _ | exact szR_le (by omega) (by omega) | ((repeat' (first | assumption | apply And.intro)); done) | ((first | unfold lo_Jar); dsimp only; (repeat' (first | assumption | apply And.intro)); done)) only [sz_ByteS, sz_ByteSS, ob_s, szR_szR]
  all_goals try simp (disch := first | omega | (simp only [need_Jar]; omega)) only [brsz]
  all_goals (first | rfl | (refine congrArg (fun t => some (szR t n, ())) ?_; simp only [need_Jar]; omega))
theorem to_Jar (d : YJar) (h : need_Jar d ≤ 4294967296) : V_l_toJar d = some d := by
  have hn : need_Jar d = d.1.length := rfl
  unfold V_l_toJar T_l_toJar
  simp only [val_br, val_ob, val_leaf, val_chk, val_sm]
  simp (disch := first | omega | (simp only [need_Jar]; omega)) only [to_ByteS, to_ByteSS, ob_s]
  all_goals rfl
theorem eq_Jar (d : YJar) (h : need_Jar d ≤ 4294967296) : V_l_eqJar d d = some (true, ()) := by
  have hn : need_Jar d = d.1.length := rfl
  unfold V_l_eqJar T_l_eqJar
  simp (disch := first | omega | (simp only [need_Jar]; omega)) only [val_br, val_ob, val_leaf, val_chk, val_sm, bne_self, beq_self_eq_true, br_f, ob_s, Bool.not_true, eq_ByteS, eq_ByteSS]
theorem mark_Jar (d : YJar) (k : Int) (h0 : 0 ≤ k) (h1 : k + (wt_Jar d : Nat) ≤ 4611686018427387904) (hl : need_Jar d ≤ 4294967296) : V_l_markJar d (k, ()) = some ((k + (wt_Jar d : Nat), ()), (mkL m_B w_B d.1 (k), ())) := by
  have hn : need_Jar d = d.1.length := rfl
  have hw : wt_Jar d = sumN w_B d.1 := rfl
  have hk : k + ((wt_Jar d : Nat) : Int) = k + (sumN w_B d.1 : Nat) := by simp only [wt_Jar]; all_goals omega
  rw [hk]
  unfold V_l_markJar T_l_markJar
  simp (maxSteps := 4000000) (disch := first | omega | (dsimp only; omega)) only [val_br, val_ob, val_leaf, val_chk, val_sm, ob_s, mark_ByteS, mark_ByteSS]
theorem held_Jar (d : YJar) (k : Int) (h0 : 0 ≤ k) (h1 : k + (wt_Jar d : Nat) ≤ 4611686018427387904) (hl : need_Jar d ≤ 4294967296) : V_l_heldJar (mkL m_B w_B d.1 (k), ()) (k, ()) = some (k + (wt_Jar d : Nat), ()) := by
  have hn : need_Jar d = d.1.length := rfl
  have hw : wt_Jar d = sumN w_B d.1 := rfl
  have hk : k + ((wt_Jar d : Nat) : Int) = k + (sumN w_B d.1 : Nat) := by simp only [wt_Jar]; all_goals omega
  rw [hk]
  unfold V_l_heldJar T_l_heldJar
  simp (maxSteps := 4000000) (disch := first | omega | (dsimp only; omega)) only [val_br, val_ob, val_leaf, val_chk, val_sm, ob_s, br_f, nn_dec, held_ByteS, held_ByteSS]
theorem heldc_Jar (c0 : List YB) (k : Int) (h0 : 0 ≤ k) (h1 : k + (wt_Jar (c0, ()) : Nat) ≤ 4611686018427387904) (hl : need_Jar (c0, ()) ≤ 4294967296) : V_l_heldJar (mkL m_B w_B c0 (k), ()) (k, ()) = some (k + (wt_Jar (c0, ()) : Nat), ()) := held_Jar (c0, ()) k h0 h1 hl
theorem sz_Dice (d : YDice) (n : Int) (h0 : -1 ≤ n) (h1 : n ≤ 1099511627776) (hl : lo_Dice d) : V_l_szDice d (n, ()) = some (szR (need_Dice d) n, ()) := by
  unfold lo_Dice at hl
  skip
  unfold V_l_szDice T_l_szDice
  simp only [val_br, val_ob, val_leaf, val_chk, val_sm]
  simp (disch := first | omega | (dsimp only; omega) | exact szR_ge _ _ | exact szR_le (by omega) (by omega) | ((repeat' (first | assumption | apply And.intro)); done) | ((first | unfold lo_Dice | unfold lo_Jar); dsimp only; (repeat' (first | assumption | apply And.intro)); done)) only [sz_ByteS, sz_ByteSS, sz_Jar, ob_s, szR_szR]
  all_goals try simp (disch := first | omega | (simp only [need_Dice, need_Jar]; omega)) only [brsz]
  all_goals (first | rfl | (refine congrArg (fun t => some (szR t n, ())) ?_; simp only [need_Dice, need_Jar]; omega))
theorem to_Dice (d : YDice) (h : need_Dice d ≤ 4294967296) : V_l_toDice d = some d := by
  have hn : need_Dice d = d.1.length := rfl
  unfold V_l_toDice T_l_toDice
  simp only [val_br, val_ob, val_leaf, val_chk, val_sm]
  simp (disch := first | omega | (simp only [need_Dice, need_Jar]; omega)) only [to_ByteS, to_ByteSS, to_Jar, ob_s]
  all_goals rfl
theorem eq_Dice (d : YDice) (h : need_Dice d ≤ 4294967296) : V_l_eqDice d d = some (true, ()) := by
  have hn : need_Dice d = d.1.length := rfl
  unfold V_l_eqDice T_l_eqDice
  simp (disch := first | omega | (simp only [need_Dice, need_Jar]; omega)) only [val_br, val_ob, val_leaf, val_chk, val_sm, bne_self, beq_self_eq_true, br_f, ob_s, Bool.not_true, eq_ByteS, eq_ByteSS, eq_Jar]
theorem mark_Dice (d : YDice) (k : Int) (h0 : 0 ≤ k) (h1 : k + (wt_Dice d : Nat) ≤ 4611686018427387904) (hl : need_Dice d ≤ 4294967296) : V_l_markDice d (k, ()) = some ((k + (wt_Dice d : Nat), ()), (mkL m_B w_B d.1 (k), d.2.1, ())) := by
  have hn : need_Dice d = d.1.length := rfl
  have hw : wt_Dice d = sumN w_B d.1 := rfl
  have hk : k + ((wt_Dice d : Nat) : Int) = k + (sumN w_B d.1 : Nat) := by simp only [wt_Dice]; all_goals omega
  rw [hk]
  unfold V_l_markDice T_l_markDice
  simp (maxSteps := 4000000) (disch := first | omega | (dsimp only; omega)) only [val_br, val_ob, val_leaf, val_chk, val_sm, ob_s, mark_ByteS, mark_ByteSS, mark_Jar]
theorem held_Dice (d : YDice) (k : Int) (h0 : 0 ≤ k) (h1 : k + (wt_Dice d : Nat) ≤ 4611686018427387904) (hl : need_Dice d ≤ 4294967296) : V_l_heldDice (mkL m_B w_B d.1 (k), d.2.1, ()) (k, ()) = some (k + (wt_Dice d : Nat), ()) := by
  have hn : need_Dice d = d.1.length := rfl
  have hw : wt_Dice d = sumN w_B d.1 := rfl
  have hk : k + ((wt_Dice d : Nat) : Int) = k + (sumN w_B d.1 : Nat) := by simp only [wt_Dice]; all_goals omega
  rw [hk]
  unfold V_l_heldDice T_l_heldDice
  simp (maxSteps := 4000000) (disch := first | omega | (dsimp only; omega)) only [val_br, val_ob, val_leaf, val_chk, val_sm, ob_s, br_f, nn_dec, held_ByteS, held_ByteSS, held_Jar]
theorem heldc_Dice (c0 : List YB) (c1 : Int) (k : Int) (h0 : 0 ≤ k) (h1 : k + (wt_Dice (c0, c1, ()) : Nat) ≤ 4611686018427387904) (hl : need_Dice (c0, c1, ()) ≤ 4294967296) : V_l_heldDice (mkL m_B w_B c0 (k), c1, ()) (k, ()) = some (k + (wt_Dice (c0, c1, ()) : Nat), ()) := held_Dice (c0, c1, ()) k h0 h1 hl
theorem sz_IntS (d : List YI × Unit) (n : Int) (h0 : -1 ≤ n) (h1 : n ≤ 1099511627776) (hl : d.1.length ≤ 9223372036854775807) : V_l_szIntS d (n, ()) = some (szR (d.1.length) n, ()) := by
  unfold V_l_szIntS T_l_szIntS
  simp only [val_br, val_leaf]
  simp (disch := omega) only [w64]
  unfold szR
  rw [br_i]
  by_cases h : (d.1.length : Int) ≤ n
  · simp only [decide_eq_true_eq, if_neg (show ¬ (n - (d.1.length : Int) < 0) by omega), if_pos h]
  · simp only [decide_eq_true_eq, if_pos (show n - (d.1.length : Int) < 0 by omega), if_neg h]
theorem to_IntS (d : List YI × Unit) (h : d.1.length ≤ 4294967296) : V_l_toIntS d = some d := by
  have e := fun (m : List YI) (hm : m.length = d.1.length) => loop_to (B := B_l_toIntS_3) (m := m) (l := d.1) (ok := fun _ => True) (fun m i x y hx hi hy => by
    unfold B_l_toIntS_3
    simp only [val_br, val_ob, val_leaf, val_chk, val_sm, lt_dec hi, br_t, idx_at hx, idx_at hy, ob_s, Int.toNat_natCast]
    rw [w64 (by omega)]) (fun m => by
    unfold B_l_toIntS_3
    simp only [val_br, val_ob, val_leaf, val_chk, val_sm, ge_dec, br_f]) hm
  unfold V_l_toIntS T_l_toIntS
  simp only [val_br, val_ob, val_leaf, val_chk, val_sm, decide_true]
  rw [dec_t (by omega), dec_t (by omega), chk_t, chk_t, chk_t, e _ (by simp)]
  rfl
theorem eq_IntS (d : List YI × Unit) (h : d.1.length ≤ 4294967296) : V_l_eqIntS d d = some (true, ()) := by
  have e := loop_eq (B := B_l_eqIntS_4) (l := d.1) (fun i x hx hi => by
    unfold B_l_eqIntS_4
    simp only [val_br, val_ob, val_leaf, val_chk, val_sm, lt_dec hi, br_t, idx_at hx, ob_s, bne_self, br_f]
    rw [w64 (by omega)]) (by
    unfold B_l_eqIntS_4
    simp only [val_br, val_ob, val_leaf, val_chk, val_sm, ge_dec, br_f])
  unfold V_l_eqIntS T_l_eqIntS
  simp only [val_br, val_ob, val_leaf, val_chk, val_sm, bne_self, br_f]
  rw [e]
  rfl
theorem mark_IntS (d : List YI × Unit) (k : Int) (h0 : 0 ≤ k) (h1 : k + (sumN w_I d.1 : Nat) ≤ 4611686018427387904) : V_l_markIntS d (k, ()) = some ((k + (sumN w_I d.1 : Nat), ()), (mkL m_I w_I d.1 k, ())) := by
  have hl := len_le_sumN (w := w_I) (fun x => by simp only [w_I]; omega) d.1
  have e := loop_mark (B := B_l_markIntS_2) m_I w_I (l := d.1) (fun t k i x ht hx hlen h0 h1 hi => by
    have hit : i < t.length := by omega
    have hk : k + ((w_I x : Nat) : Int) = k + 1 := by simp only [w_I]; all_goals omega
    rw [hk]
    unfold B_l_markIntS_2
    simp (maxSteps := 4000000) only [val_br, val_ob, val_leaf, val_chk, val_sm, lt_dec hit, br_t, idx_at ht, ob_s, Int.toNat_natCast]
    simp only [w_I] at *
    simp (maxSteps := 4000000) (disch := first | omega | (dsimp only; omega) | (simp only [List.length_set]; omega)) only [w64, idx_set, List.set_set, ob_s, Int.toNat_natCast, chk_t, dec_t, mark_ByteS, mark_ByteSS, mark_Jar, mark_Dice]
    rfl) (fun t k hlen => by
    unfold B_l_markIntS_2
    exact (val_br _ _ _).trans ((br_ff (by simp [hlen])).trans rfl)) h0 h1
  unfold V_l_markIntS T_l_markIntS
  simp only [val_br, val_ob, val_leaf, val_chk, val_sm]
  rw [e]
  rfl
theorem held_IntS (d : List YI) (k : Int) (h0 : 0 ≤ k) (h1 : k + (sumN w_I d : Nat) ≤ 4611686018427387904) : V_l_heldIntS (mkL m_I w_I d k, ()) (k, ()) = some (k + (sumN w_I d : Nat), ()) := by
  have hl := len_le_sumN (w := w_I) (fun x => by simp only [w_I]; omega) d
  have e := loop_held (B := B_l_heldIntS_2) m_I w_I (l := d) (k := k) (fun k i x ht hx h0 h1 hi => by
    have hk : k + ((w_I x : Nat) : Int) = k + 1 := by simp only [w_I]; all_goals omega
    rw [hk]
    unfold B_l_heldIntS_2
    simp only [val_br, val_ob, val_leaf, val_chk, val_sm, mkL_len, lt_dec hi, br_t, idx_at ht, ob_s, m_I, bne_self, br_f]
    simp only [w_I] at *
    simp (maxSteps := 4000000) (disch := first | omega | (dsimp only; omega)) only [w64, ob_s, bne_self, beq_self_eq_true, Bool.not_true, br_f, nn_dec, chk_t, dec_t, held_ByteS, held_ByteSS, held_Jar, held_Dice]) (fun k => by
    unfold B_l_heldIntS_2
    simp only [val_br, val_ob, val_leaf, val_chk, val_sm, mkL_len, ge_dec, br_f]) h0 h1
  unfold V_l_heldIntS T_l_heldIntS
  simp only [val_br, val_ob, val_leaf, val_chk, val_sm]
  rw [e]
  rfl
theorem sz_Win (d : YWin) (n : Int) (h0 : -1 ≤ n) (h1 : n ≤ 1099511627776) (hl : lo_Win d) : V_l_szWin d (n, ()) = some (szR (need_Win d) n, ()) := by
  unfold lo_Win at hl
  skip
  unfold V_l_szWin T_l_szWin
  simp only [val_br, val_ob, val_leaf, val_chk, val_sm]
  simp (disch := first | omega | (dsimp only; omega) | exact szR_ge _ _ | exact szR_le (by omega) (by omega) | ((repeat' (first | assumption | apply And.intro)); done) | ((first | unfold lo_Win | unfold lo_Jar | unfold lo_Dice); dsimp only; (repeat' (first | assumption | apply And.intro)); done)) only [sz_ByteS, sz_ByteSS, sz_Jar, sz_Dice, sz_IntS, ob_s, szR_szR]
  all_goals try simp (disch := first | omega | (simp only [need_Win, need_Jar, need_Dice]; omega)) only [brsz]
  all_goals (first | rfl | (refine congrArg (fun t => some (szR t n, ())) ?_; simp only [need_Win, need_Jar, need_Dice]; omega))
theorem to_Win (d : YWin) (h : need_Win d ≤ 4294967296) : V_l_toWin d = some d := by
  have hn : need_Win d = d.2.1.length := rfl
  unfold V_l_toWin T_l_toWin
  simp only [val_br, val_ob, val_leaf, val_chk, val_sm]
  simp (disch := first | omega | (simp only [need_Win, need_Jar, need_Dice]; omega)) only [to_ByteS, to_ByteSS, to_Jar, to_Dice, to_IntS, ob_s]
  all_goals rfl
theorem eq_Win (d : YWin) (h : need_Win d ≤ 4294967296) : V_l_eqWin d d = some (true, ()) := by
  have hn : need_Win d = d.2.1.length := rfl
  unfold V_l_eqWin T_l_eqWin
  simp (disch := first | omega | (simp only [need_Win, need_Jar, need_Dice]; omega)) only [val_br, val_ob, val_leaf, val_chk, val_sm, bne_self, beq_self_eq_true, br_f, ob_s, Bool.not_true, eq_ByteS, eq_ByteSS, eq_Jar, eq_Dice, eq_IntS]
theorem sz_Ep (d : YEp) (n : Int) (h0 : -1 ≤ n) (h1 : n ≤ 1099511627776) (hl : lo_Ep d) : V_l_szEp d (n, ()) = some (szR (need_Ep d) n, ()) := by
  unfold lo_Ep at hl
  obtain ⟨hl0, hl1⟩ := hl
  unfold V_l_szEp T_l_szEp
  simp only [val_br, val_ob, val_leaf, val_chk, val_sm]
  simp (disch := first | omega | (dsimp only; omega) | exact szR_ge _ _ | exact szR_le (by omega) (by omega) | ((repeat' (first | assumption | apply And.intro)); done) | ((first | unfold lo_Ep | unfold lo_Jar | unfold lo_Dice | unfold lo_Win); dsimp only; (repeat' (first | assumption | apply And.intro)); done)) only [sz_ByteS, sz_ByteSS, sz_Jar, sz_Dice, sz_IntS, sz_Win, ob_s, szR_szR]
  all_goals try simp (disch := first | omega | (simp only [need_Ep, need_Jar, need_Dice, need_Win]; omega)) only [brsz]
  all_goals (first | rfl | (refine congrArg (fun t => some (szR t n, ())) ?_; simp only [need_Ep, need_Jar, need_Dice, need_Win]; omega))
theorem to_Ep (d : YEp) (h : need_Ep d ≤ 4294967296) : V_l_toEp d = some d := by
  have hn : need_Ep d = d.2.1.length + d.2.2.2.2.1.length := rfl
  unfold V_l_toEp T_l_toEp
  simp only [val_br, val_ob, val_leaf, val_chk, val_sm]
  simp (disch := first | omega | (simp only [need_Ep, need_Jar, need_Dice, need_Win]; omega)) only [to_ByteS, to_ByteSS, to_Jar, to_Dice, to_IntS, to_Win, ob_s]
  all_goals rfl
theorem eq_Ep (d : YEp) (h : need_Ep d ≤ 4294967296) : V_l_eqEp d d = some (true, ()) := by
  have hn : need_Ep d = d.2.1.length + d.2.2.2.2.1.length := rfl
  unfold V_l_eqEp T_l_eqEp
  simp (disch := first | omega | (simp only [need_Ep, need_Jar, need_Dice, need_Win]; omega)) only [val_br, val_ob, val_leaf, val_chk, val_sm, bne_self, beq_self_eq_true, br_f, ob_s, Bool.not_true, eq_ByteS, eq_ByteSS, eq_Jar, eq_Dice, eq_IntS, eq_Win]
theorem sz_Chan (d : YChan) (n : Int) (h0 : -1 ≤ n) (h1 : n ≤ 1099511627776) (hl : lo_Chan d) : V_l_szChan d (n, ()) = some (szR (need_Chan d) n, ()) := by
  unfold lo_Chan at hl
  obtain ⟨hl0, hl1, hl2, hl3, hl4, hl5⟩ := hl
  unfold V_l_szChan T_l_szChan
  simp only [val_br, val_ob, val_leaf, val_chk, val_sm]
  simp (disch := first | omega | (dsimp only; omega) | exact szR_ge _ _ | exact szR_le (by omega) (by omega) | ((repeat' (first | assumption | apply And.intro)); done) | ((first | unfold lo_Chan | unfold lo_Jar | unfold lo_Dice | unfold lo_Win | unfold lo_Ep); dsimp only; (repeat' (first | assumption | apply And.intro)); done)) only [sz_ByteS, sz_ByteSS, sz_Jar, sz_Dice, sz_IntS, sz_Win, sz_Ep, ob_s, szR_szR]
  all_goals try simp (disch := first | omega | (simp only [need_Chan, need_Jar, need_Dice, need_Win, need_Ep]; omega)) only [brsz]
  all_goals (first | rfl | (refine congrArg (fun t => some (szR t n, ())) ?_; simp only [need_Chan, need_Jar, need_Dice, need_Win, need_Ep]; omega))
theorem to_Chan (d : YChan) (h : need_Chan d ≤ 4294967296) : V_l_toChan d = some d := by
  have hn : need_Chan d = d.2.1.length + d.2.2.2.1.length + d.2.2.2.2.2.2.1.length + d.2.2.2.2.2.2.2.2.1.length + d.2.2.2.2.2.2.2.2.2.2.2.1.length + d.2.2.2.2.2.2.2.2.2.2.2.2.2.2.1.length := rfl
  unfold V_l_toChan T_l_toChan
  simp only [val_br, val_ob, val_leaf, val_chk, val_sm]
  simp (disch := first | omega | (simp only [need_Chan, need_Jar, need_Dice, need_Win, need_Ep]; omega)) only [to_ByteS, to_ByteSS, to_Jar, to_Dice, to_IntS, to_Win, to_Ep, ob_s]
  all_goals rfl
theorem eq_Chan (d : YChan) (h : need_Chan d ≤ 4294967296) : V_l_eqChan d d = some (true, ()) := by
  have hn : need_Chan d = d.2.1.length + d.2.2.2.1.length + d.2.2.2.2.2.2.1.length + d.2.2.2.2.2.2.2.2.1.length + d.2.2.2.2.2.2.2.2.2.2.2.1.length + d.2.2.2.2.2.2.2.2.2.2.2.2.2.2.1.length := rfl
  unfold V_l_eqChan T_l_eqChan
  simp (disch := first | omega | (simp only [need_Chan, need_Jar, need_Dice, need_Win, need_Ep]; omega)) only [val_br, val_ob, val_leaf, val_chk, val_sm, bne_self, beq_self_eq_true, br_f, ob_s, Bool.not_true, eq_ByteS, eq_ByteSS, eq_Jar, eq_Dice, eq_IntS, eq_Win, eq_Ep]
theorem to_Addr (d : YAddr) : V_l_toAddr d = some d := by
  have hn : need_Addr d = 0 := rfl
  unfold V_l_toAddr T_l_toAddr
  simp only [val_br, val_ob, val_leaf, val_chk, val_sm]
  skip
  all_goals rfl
theorem eq_Addr (d : YAddr) : V_l_eqAddr d d = some (true, ()) := by
  have hn : need_Addr d = 0 := rfl
  unfold V_l_eqAddr T_l_eqAddr
  simp (disch := first | omega | (simp only [need_Addr, need_Jar, need_Dice, need_Win, need_Ep, need_Chan]; omega)) only [val_br, val_ob, val_leaf, val_chk, val_sm, bne_self, beq_self_eq_true, br_f, ob_s, Bool.not_true, eq_ByteS, eq_ByteSS, eq_Jar, eq_Dice, eq_IntS, eq_Win, eq_Ep, eq_Chan]
theorem sz_Cand (d : YCand) (n : Int) (h0 : -1 ≤ n) (h1 : n ≤ 1099511627776) (hl : lo_Cand d) : V_l_szCand d (n, ()) = some (szR (need_Cand d) n, ()) := by
  unfold lo_Cand at hl
  skip
  unfold V_l_szCand T_l_szCand
  simp only [val_br, val_ob, val_leaf, val_chk, val_sm]
  simp (disch := first | omega | (dsimp only; omega) | exact szR_ge _ _ | exact szR_le (by omega) (by omega) | ((repeat' (first | assumption | apply And.intro)); done) | ((first | unfold lo_Cand | unfold lo_Jar | unfold lo_Dice | unfold lo_Win | unfold lo_Ep | unfold lo_Chan | unfold lo_Addr); dsimp only; (repeat' (first | assumption | apply And.intro)); done)) only [sz_ByteS, sz_ByteSS, sz_Jar, sz_Dice, sz_IntS, sz_Win, sz_Ep, sz_Chan, ob_s, szR_szR]
  all_goals try simp (disch := first | omega | (simp only [need_Cand, need_Jar, need_Dice, need_Win, need_Ep, need_Chan, need_Addr]; omega)) only [brsz]
  all_goals (first | rfl | (refine congrArg (fun t => some (szR t n, ())) ?_; simp only [need_Cand, need_Jar, need_Dice, need_Win, need_Ep, need_Chan, need_Addr]; omega))
theorem to_Cand (d : YCand) (h : need_Cand d ≤ 4294967296) : V_l_toCand d = some d := by
  have hn : need_Cand d = d.2.2.1.length := rfl
  unfold V_l_toCand T_l_toCand
  simp only [val_br, val_ob, val_leaf, val_chk, val_sm]
  simp (disch := first | omega | (simp only [need_Cand, need_Jar, need_Dice, need_Win, need_Ep, need_Chan, need_Addr]; omega)) only [to_ByteS, to_ByteSS, to_Jar, to_Dice, to_IntS, to_Win, to_Ep, to_Chan, to_Addr, ob_s]
  all_goals rfl
theorem eq_Cand (d : YCand) (h : need_Cand d ≤ 4294967296) : V_l_eqCand d d = some (true, ()) := by
  have hn : need_Cand d = d.2.2.1.length := rfl
  unfold V_l_eqCand T_l_eqCand
  simp (disch := first | omega | (simp only [need_Cand, need_Jar, need_Dice, need_Win, need_Ep, need_Chan, need_Addr]; omega)) only [val_br, val_ob, val_leaf, val_chk, val_sm, bne_self, beq_self_eq_true, br_f, ob_s, Bool.not_true, eq_ByteS, eq_ByteSS, eq_Jar, eq_Dice, eq_IntS, eq_Win, eq_Ep, eq_Chan, eq_Addr]
theorem sz_CandS (d : List YCand × Unit) (n : Int) (h0 : -1 ≤ n) (h1 : n ≤ 1099511627776) (hl : d.1.length ≤ 9223372036854775807 ∧ (∀ (i : Nat) x, d.1[i]? = some x → lo_Cand x)) : V_l_szCandS d (n, ()) = some (szR (d.1.length + sumN need_Cand d.1) n, ()) := by
  obtain ⟨hl1, hl2⟩ := hl
  unfold V_l_szCandS T_l_szCandS
  simp only [val_br, val_ob, val_leaf, val_chk, val_sm]
  rw [w64 (by omega)]
  by_cases h : (d.1.length : Int) ≤ n
  · rw [dec_f (by omega), br_f, loop_sz need_Cand (l := d.1) (fun n' i x hx hi h0' h1' => by
        have hlx := hl2 i x hx
        unfold B_l_szCandS_5
        simp only [val_br, val_ob, val_leaf, val_chk, val_sm, lt_dec hi, br_t, idx_at hx, ob_s]
        rw [sz_Cand x n' h0' h1' (by exact hlx), ob_s]
        rw [w64 (by omega)]) (fun n' => by
        unfold B_l_szCandS_5
        simp only [val_br, val_ob, val_leaf, val_chk, val_sm, ge_dec, br_f]) (by omega) (by omega), ← szR_szR]
    unfold szR
    rw [if_pos h]
  · rw [dec_t (by omega), br_t]
    unfold szR
    rw [if_neg (by omega)]
theorem to_CandS (d : List YCand × Unit) (h : d.1.length + sumN need_Cand d.1 ≤ 4294967296) : V_l_toCandS d = some d := by
  have e := fun (m : List YCand) (hm : m.length = d.1.length) => loop_to (B := B_l_toCandS_3) (m := m) (l := d.1) (ok := fun _ => True) (fun m i x y hx hi hy => by
    unfold B_l_toCandS_3
    simp only [val_br, val_ob, val_leaf, val_chk, val_sm, lt_dec hi, br_t, idx_at hx, idx_at hy, ob_s, Int.toNat_natCast]
    have hx2 := sumN_at (f := need_Cand) hx
    rw [to_Cand x (by first | omega | (simp only [need_Cand] at *; omega)), ob_s]
    try simp only [idx_at hy, ob_s, Int.toNat_natCast]
    rw [w64 (by omega)]) (fun m => by
    unfold B_l_toCandS_3
    simp only [val_br, val_ob, val_leaf, val_chk, val_sm, ge_dec, br_f]) hm
  unfold V_l_toCandS T_l_toCandS
  simp only [val_br, val_ob, val_leaf, val_chk, val_sm, decide_true]
  rw [dec_t (by omega), dec_t (by omega), chk_t, chk_t, chk_t, e _ (by simp)]
  rfl
theorem eq_CandS (d : List YCand × Unit) (h : d.1.length + sumN need_Cand d.1 ≤ 4294967296) : V_l_eqCandS d d = some (true, ()) := by
  have e := loop_eq (B := B_l_eqCandS_4) (l := d.1) (fun i x hx hi => by
    unfold B_l_eqCandS_4
    simp only [val_br, val_ob, val_leaf, val_chk, val_sm, lt_dec hi, br_t, idx_at hx, ob_s, bne_self, br_f]
    have hx2 := sumN_at (f := need_Cand) hx
    rw [eq_Cand x (by first | omega | (simp only [need_Cand] at *; omega)), ob_s]
    try simp only [Bool.not_true, br_f]
    rw [w64 (by omega)]) (by
    unfold B_l_eqCandS_4
    simp only [val_br, val_ob, val_leaf, val_chk, val_sm, ge_dec, br_f])
  unfold V_l_eqCandS T_l_eqCandS
  simp only [val_br, val_ob, val_leaf, val_chk, val_sm, bne_self, br_f]
  rw [e]
  rfl
theorem mark_CandS (d : List YCand × Unit) (k : Int) (h0 : 0 ≤ k) (h1 : k + (sumN w_Cand d.1 : Nat) ≤ 4611686018427387904) : V_l_markCandS d (k, ()) = some ((k + (sumN w_Cand d.1 : Nat), ()), (mkL m_Cand w_Cand d.1 k, ())) := by
  have hl := len_le_sumN (w := w_Cand) (fun x => by simp only [w_Cand]; omega) d.1
  have e := loop_mark (B := B_l_markCandS_2) m_Cand w_Cand (l := d.1) (fun t k i x ht hx hlen h0 h1 hi => by
    have hit : i < t.length := by omega
    have hw : w_Cand x = 1 + 1 + sumN w_B x.2.2.1 + 1 := rfl
    have hk : k + ((w_Cand x : Nat) : Int) = k + 1 + 1 + (sumN w_B x.2.2.1 : Nat) + 1 := by simp only [w_Cand]; all_goals omega
    rw [hk]
    unfold B_l_markCandS_2
    simp (maxSteps := 4000000) only [val_br, val_ob, val_leaf, val_chk, val_sm, lt_dec hit, br_t, idx_at ht, ob_s, Int.toNat_natCast]
    simp (maxSteps := 4000000) (disch := first | omega | (dsimp only; omega) | (simp only [List.length_set]; omega)) only [w64, idx_set, List.set_set, ob_s, Int.toNat_natCast, chk_t, dec_t, mark_ByteS, mark_ByteSS, mark_Jar, mark_Dice, mark_IntS]
    rfl) (fun t k hlen => by
    unfold B_l_markCandS_2
    exact (val_br _ _ _).trans ((br_ff (by simp [hlen])).trans rfl)) h0 h1
  unfold V_l_markCandS T_l_markCandS
  simp only [val_br, val_ob, val_leaf, val_chk, val_sm]
  rw [e]
  rfl
theorem held_CandS (d : List YCand) (k : Int) (h0 : 0 ≤ k) (h1 : k + (sumN w_Cand d : Nat) ≤ 4611686018427387904) : V_l_heldCandS (mkL m_Cand w_Cand d k, ()) (k, ()) = some (k + (sumN w_Cand d : Nat), ()) := by
  have hl := len_le_sumN (w := w_Cand) (fun x => by simp only [w_Cand]; omega) d
  have e := loop_held (B := B_l_heldCandS_2) m_Cand w_Cand (l := d) (k := k) (fun k i x ht hx h0 h1 hi => by
    have hk : k + ((w_Cand x : Nat) : Int) = k + 1 + 1 + (sumN w_B x.2.2.1 : Nat) + 1 := by simp only [w_Cand]; all_goals omega
    have hw : w_Cand x = 1 + 1 + sumN w_B x.2.2.1 + 1 := rfl
    rw [hk]
    unfold B_l_heldCandS_2
    simp only [val_br, val_ob, val_leaf, val_chk, val_sm, mkL_len, lt_dec hi, br_t, idx_at ht, ob_s, m_Cand, bne_self, br_f]
    simp (maxSteps := 4000000) (disch := first | omega | (dsimp only; omega)) only [w64, ob_s, bne_self, beq_self_eq_true, Bool.not_true, br_f, nn_dec, chk_t, dec_t, held_ByteS, held_ByteSS, held_Jar, held_Dice, held_IntS]) (fun k => by
    unfold B_l_heldCandS_2
    simp only [val_br, val_ob, val_leaf, val_chk, val_sm, mkL_len, ge_dec, br_f]) h0 h1
  unfold V_l_heldCandS T_l_heldCandS
  simp only [val_br, val_ob, val_leaf, val_chk, val_sm]
  rw [e]
  rfl
theorem sz_Paths (d : YPaths) (n : Int) (h0 : -1 ≤ n) (h1 : n ≤ 1099511627776) (hl : lo_Paths d) : V_l_szPaths d (n, ()) = some (szR (need_Paths d) n, ()) := by
  unfold lo_Paths at hl
  obtain ⟨hl0, hl1⟩ := hl
  unfold V_l_szPaths T_l_szPaths
  simp only [val_br, val_ob, val_leaf, val_chk, val_sm]
  simp (disch := first | omega | (dsimp only; omega) | exact szR_ge _ _ | exact szR_le (by omega) (by omega) | ((repeat' (first | assumption | apply And.intro)); done) | ((first | unfold lo_Paths | unfold lo_Jar | unfold lo_Dice | unfold lo_Win | unfold lo_Ep | unfold lo_Chan | unfold lo_Addr | unfold lo_Cand); dsimp only; (repeat' (first | assumption | apply And.intro)); done)) only [sz_ByteS, sz_ByteSS, sz_Jar, sz_Dice, sz_IntS, sz_Win, sz_Ep, sz_Chan, sz_Cand, sz_CandS, ob_s, szR_szR]
  all_goals try simp (disch := first | omega | (simp only [need_Paths, need_Jar, need_Dice, need_Win, need_Ep, need_Chan, need_Addr, need_Cand]; omega)) only [brsz]
  all_goals (first | rfl | (refine congrArg (fun t => some (szR t n, ())) ?_; simp only [need_Paths, need_Jar, need_Dice, need_Win, need_Ep, need_Chan, need_Addr, need_Cand]; omega))
theorem to_Paths (d : YPaths) (h : need_Paths d ≤ 4294967296) : V_l_toPaths d = some d := by
  have hn : need_Paths d = d.2.2.1.length + sumN need_Cand d.2.2.1 := rfl
  unfold V_l_toPaths T_l_toPaths
  simp only [val_br, val_ob, val_leaf, val_chk, val_sm]
  simp (disch := first | omega | (simp only [need_Paths, need_Jar, need_Dice, need_Win, need_Ep, need_Chan, need_Addr, need_Cand]; omega)) only [to_ByteS, to_ByteSS, to_Jar, to_Dice, to_IntS, to_Win, to_Ep, to_Chan, to_Addr, to_Cand, to_CandS, ob_s]
  all_goals rfl
theorem eq_Paths (d : YPaths) (h : need_Paths d ≤ 4294967296) : V_l_eqPaths d d = some (true, ()) := by
  have hn : need_Paths d = d.2.2.1.length + sumN need_Cand d.2.2.1 := rfl
  unfold V_l_eqPaths T_l_eqPaths
  simp (disch := first | omega | (simp only [need_Paths, need_Jar, need_Dice, need_Win, need_Ep, need_Chan, need_Addr, need_Cand]; omega)) only [val_br, val_ob, val_leaf, val_chk, val_sm, bne_self, beq_self_eq_true, br_f, ob_s, Bool.not_true, eq_ByteS, eq_ByteSS, eq_Jar, eq_Dice, eq_IntS, eq_Win, eq_Ep, eq_Chan, eq_Addr, eq_Cand, eq_CandS]
theorem sz_Sess (d : YSess) (n : Int) (h0 : -1 ≤ n) (h1 : n ≤ 1099511627776) (hl : lo_Sess d) : V_l_szSess d (n, ()) = some (szR (need_Sess d) n, ()) := by
  unfold lo_Sess at hl
  obtain ⟨hl0, hl1, hl2, hl3, hl4, hl5, hl6, hl7, hl8, hl9⟩ := hl
  unfold V_l_szSess T_l_szSess
  simp only [val_br, val_ob, val_leaf, val_chk, val_sm]
  simp (disch := first | omega | (dsimp only; omega) | exact szR_ge _ _ | exact szR_le (by omega) (by omega) | ((repeat' (first | assumption | apply And.intro)); done) | ((first | unfold lo_Sess | unfold lo_Jar | unfold lo_Dice | unfold lo_Win | unfold lo_Ep | unfold lo_Chan | unfold lo_Addr | unfold lo_Cand | unfold lo_Paths); dsimp only; (repeat' (first | assumption | apply And.intro)); done)) only [sz_ByteS, sz_ByteSS, sz_Jar, sz_Dice, sz_IntS, sz_Win, sz_Ep, sz_Chan, sz_Cand, sz_CandS, sz_Paths, ob_s, szR_szR]
  all_goals try simp (disch := first | omega | (simp only [need_Sess, need_Jar, need_Dice, need_Win, need_Ep, need_Chan, need_Addr, need_Cand, need_Paths]; omega)) only [brsz]
  all_goals (first | rfl | (refine congrArg (fun t => some (szR t n, ())) ?_; simp only [need_Sess, need_Jar, need_Dice, need_Win, need_Ep, need_Chan, need_Addr, need_Cand, need_Paths]; omega))
theorem to_Sess (d : YSess) (h : need_Sess d ≤ 4294967296) : V_l_toSess d = some d := by
  have hn : need_Sess d = d.2.1.length + d.2.2.1.length + d.2.2.2.2.1.length + d.2.2.2.2.2.2.1.length + d.2.2.2.2.2.2.2.2.2.1.length + d.2.2.2.2.2.2.2.2.2.2.2.1.length + d.2.2.2.2.2.2.2.2.2.2.2.2.2.2.1.length + d.2.2.2.2.2.2.2.2.2.2.2.2.2.2.2.2.2.1.length + d.2.2.2.2.2.2.2.2.2.2.2.2.2.2.2.2.2.2.2.2.1.length + sumN need_Cand d.2.2.2.2.2.2.2.2.2.2.2.2.2.2.2.2.2.2.2.2.1 := rfl
  unfold V_l_toSess T_l_toSess
  simp only [val_br, val_ob, val_leaf, val_chk, val_sm]
  simp (disch := first | omega | (simp only [need_Sess, need_Jar, need_Dice, need_Win, need_Ep, need_Chan, need_Addr, need_Cand, need_Paths]; omega)) only [to_ByteS, to_ByteSS, to_Jar, to_Dice, to_IntS, to_Win, to_Ep, to_Chan, to_Addr, to_Cand, to_CandS, to_Paths, ob_s]
  all_goals rfl
theorem eq_Sess (d : YSess) (h : need_Sess d ≤ 4294967296) : V_l_eqSess d d = some (true, ()) := by
  have hn : need_Sess d = d.2.1.length + d.2.2.1.length + d.2.2.2.2.1.length + d.2.2.2.2.2.2.1.length + d.2.2.2.2.2.2.2.2.2.1.length + d.2.2.2.2.2.2.2.2.2.2.2.1.length + d.2.2.2.2.2.2.2.2.2.2.2.2.2.2.1.length + d.2.2.2.2.2.2.2.2.2.2.2.2.2.2.2.2.2.1.length + d.2.2.2.2.2.2.2.2.2.2.2.2.2.2.2.2.2.2.2.2.1.length + sumN need_Cand d.2.2.2.2.2.2.2.2.2.2.2.2.2.2.2.2.2.2.2.2.1 := rfl
  unfold V_l_eqSess T_l_eqSess
  simp (disch := first | omega | (simp only [need_Sess, need_Jar, need_Dice, need_Win, need_Ep, need_Chan, need_Addr, need_Cand, need_Paths]; omega)) only [val_br, val_ob, val_leaf, val_chk, val_sm, bne_self, beq_self_eq_true, br_f, ob_s, Bool.not_true, eq_ByteS, eq_ByteSS, eq_Jar, eq_Dice, eq_IntS, eq_Win, eq_Ep, eq_Chan, eq_Addr, eq_Cand, eq_CandS, eq_Paths]
theorem sz_SessS (d : List YSess × Unit) (n : Int) (h0 : -1 ≤ n) (h1 : n ≤ 1099511627776) (hl : d.1.length ≤ 9223372036854775807 ∧ (∀ (i : Nat) x, d.1[i]? = some x → lo_Sess x)) : V_l_szSessS d (n, ()) = some (szR (d.1.length + sumN need_Sess d.1) n, ()) := by
  obtain ⟨hl1, hl2⟩ := hl
  unfold V_l_szSessS T_l_szSessS
  simp only [val_br, val_ob, val_leaf, val_chk, val_sm]
  rw [w64 (by omega)]
  by_cases h : (d.1.length : Int) ≤ n
  · rw [dec_f (by omega), br_f, loop_sz need_Sess (l := d.1) (fun n' i x hx hi h0' h1' => by
        have hlx := hl2 i x hx
        unfold B_l_szSessS_5
        simp only [val_br, val_ob, val_leaf, val_chk, val_sm, lt_dec hi, br_t, idx_at hx, ob_s]
        rw [sz_Sess x n' h0' h1' (by exact hlx), ob_s]
        rw [w64 (by omega)]) (fun n' => by
        unfold B_l_szSessS_5
        simp only [val_br, val_ob, val_leaf, val_chk, val_sm, ge_dec, br_f]) (by omega) (by omega), ← szR_szR]
    unfold szR
    rw [if_pos h]
  · rw [dec_t (by omega), br_t]
    unfold szR
    rw [if_neg (by omega)]
theorem to_SessS (d : List YSess × Unit) (h : d.1.length + sumN need_Sess d.1 ≤ 4294967296) : V_l_toSessS d = some d := by
  have e := fun (m : List YSess) (hm : m.length = d.1.length) => loop_to (B := B_l_toSessS_3) (m := m) (l := d.1) (ok := fun _ => True) (fun m i x y hx hi hy => by
    unfold B_l_toSessS_3
    simp only [val_br, val_ob, val_leaf, val_chk, val_sm, lt_dec hi, br_t, idx_at hx, idx_at hy, ob_s, Int.toNat_natCast]
    have hx2 := sumN_at (f := need_Sess) hx
    rw [to_Sess x (by first | omega | (simp only [need_Sess] at *; omega)), ob_s]
    try simp only [idx_at hy, ob_s, Int.toNat_natCast]
    rw [w64 (by omega)]) (fun m => by
    unfold B_l_toSessS_3
    simp only [val_br, val_ob, val_leaf, val_chk, val_sm, ge_dec, br_f]) hm
  unfold V_l_toSessS T_l_toSessS
  simp only [val_br, val_ob, val_leaf, val_chk, val_sm, decide_true]
  rw [dec_t (by omega), dec_t (by omega), chk_t, chk_t, chk_t, e _ (by simp)]
  rfl
theorem eq_SessS (d : List YSess × Unit) (h : d.1.length + sumN need_Sess d.1 ≤ 4294967296) : V_l_eqSessS d d = some (true, ()) := by
  have e := loop_eq (B := B_l_eqSessS_4) (l := d.1) (fun i x hx hi => by
    unfold B_l_eqSessS_4
    simp only [val_br, val_ob, val_leaf, val_chk, val_sm, lt_dec hi, br_t, idx_at hx, ob_s, bne_self, br_f]
    have hx2 := sumN_at (f := need_Sess) hx
    rw [eq_Sess x (by first | omega | (simp only [need_Sess] at *; omega)), ob_s]
    try simp only [Bool.not_true, br_f]
    rw [w64 (by omega)]) (by
    unfold B_l_eqSessS_4
    simp only [val_br, val_ob, val_leaf, val_chk, val_sm, ge_dec, br_f])
  unfold V_l_eqSessS T_l_eqSessS
  simp only [val_br, val_ob, val_leaf, val_chk, val_sm, bne_self, br_f]
  rw [e]
  rfl
theorem mark_SessS (d : List YSess × Unit) (k : Int) (h0 : 0 ≤ k) (h1 : k + (sumN w_Sess d.1 : Nat) ≤ 4611686018427387904) : V_l_markSessS d (k, ()) = some ((k + (sumN w_Sess d.1 : Nat), ()), (mkL m_Sess w_Sess d.1 k, ())) := by
  have hl := len_le_sumN (w := w_Sess) (fun x => by simp only [w_Sess]; omega) d.1
  have e := loop_mark (B := B_l_markSessS_2) m_Sess w_Sess (l := d.1) (fun t k i x ht hx hlen h0 h1 hi => by
    have hit : i < t.length := by omega
    have hw : w_Sess x = 1 + sumN w_B x.2.1 + sumN w_B x.2.2.1 + 1 + sumN w_B x.2.2.2.2.1 + 1 + sumN w_B x.2.2.2.2.2.2.1 + 1 + 1 + sumN w_I x.2.2.2.2.2.2.2.2.2.1 + 1 + sumN w_B x.2.2.2.2.2.2.2.2.2.2.2.1 + 1 + 1 + sumN w_I x.2.2.2.2.2.2.2.2.2.2.2.2.2.2.1 + 1 + 1 + sumN w_B x.2.2.2.2.2.2.2.2.2.2.2.2.2.2.2.2.2.1 + 1 + 1 + sumN w_Cand x.2.2.2.2.2.2.2.2.2.2.2.2.2.2.2.2.2.2.2.2.1 + 1 + 1 + 1 := rfl
    have hk : k + ((w_Sess x : Nat) : Int) = k + 1 + (sumN w_B x.2.1 : Nat) + (sumN w_B x.2.2.1 : Nat) + 1 + (sumN w_B x.2.2.2.2.1 : Nat) + 1 + (sumN w_B x.2.2.2.2.2.2.1 : Nat) + 1 + 1 + (sumN w_I x.2.2.2.2.2.2.2.2.2.1 : Nat) + 1 + (sumN w_B x.2.2.2.2.2.2.2.2.2.2.2.1 : Nat) + 1 + 1 + (sumN w_I x.2.2.2.2.2.2.2.2.2.2.2.2.2.2.1 : Nat) + 1 + 1 + (sumN w_B x.2.2.2.2.2.2.2.2.2.2.2.2.2.2.2.2.2.1 : Nat) + 1 + 1 + (sumN w_Cand x.2.2.2.2.2.2.2.2.2.2.2.2.2.2.2.2.2.2.2.2.1 : Nat) + 1 + 1 + 1 := by simp only [w_Sess]; all_goals omega
    rw [hk]
    unfold B_l_markSessS_2
    simp (maxSteps := 4000000) only [val_br, val_ob, val_leaf, val_chk, val_sm, lt_dec hit, br_t, idx_at ht, ob_s, Int.toNat_natCast]
    simp (maxSteps := 4000000) (disch := first | omega | (dsimp only; omega) | (simp only [List.length_set]; omega)) only [w64, idx_set, List.set_set, ob_s, Int.toNat_natCast, chk_t, dec_t, mark_ByteS, mark_ByteSS, mark_Jar, mark_Dice, mark_IntS, mark_CandS]
    rfl) (fun t k hlen => by
    unfold B_l_markSessS_2
    exact (val_br _ _ _).trans ((br_ff (by simp [hlen])).trans rfl)) h0 h1
  unfold V_l_markSessS T_l_markSessS
  simp only [val_br, val_ob, val_leaf, val_chk, val_sm]
  rw [e]
  rfl
theorem held_SessS (d : List YSess) (k : Int) (h0 : 0 ≤ k) (h1 : k + (sumN w_Sess d : Nat) ≤ 4611686018427387904) : V_l_heldSessS (mkL m_Sess w_Sess d k, ()) (k, ()) = some (k + (sumN w_Sess d : Nat), ()) := by
  have hl := len_le_sumN (w := w_Sess) (fun x => by simp only [w_Sess]; omega) d
  have e := loop_held (B := B_l_heldSessS_2) m_Sess w_Sess (l := d) (k := k) (fun k i x ht hx h0 h1 hi => by
    have hk : k + ((w_Sess x : Nat) : Int) = k + 1 + (sumN w_B x.2.1 : Nat) + (sumN w_B x.2.2.1 : Nat) + 1 + (sumN w_B x.2.2.2.2.1 : Nat) + 1 + (sumN w_B x.2.2.2.2.2.2.1 : Nat) + 1 + 1 + (sumN w_I x.2.2.2.2.2.2.2.2.2.1 : Nat) + 1 + (sumN w_B x.2.2.2.2.2.2.2.2.2.2.2.1 : Nat) + 1 + 1 + (sumN w_I x.2.2.2.2.2.2.2.2.2.2.2.2.2.2.1 : Nat) + 1 + 1 + (sumN w_B x.2.2.2.2.2.2.2.2.2.2.2.2.2.2.2.2.2.1 : Nat) + 1 + 1 + (sumN w_Cand x.2.2.2.2.2.2.2.2.2.2.2.2.2.2.2.2.2.2.2.2.1 : Nat) + 1 + 1 + 1 := by simp only [w_Sess]; all_goals omega
    have hw : w_Sess x = 1 + sumN w_B x.2.1 + sumN w_B x.2.2.1 + 1 + sumN w_B x.2.2.2.2.1 + 1 + sumN w_B x.2.2.2.2.2.2.1 + 1 + 1 + sumN w_I x.2.2.2.2.2.2.2.2.2.1 + 1 + sumN w_B x.2.2.2.2.2.2.2.2.2.2.2.1 + 1 + 1 + sumN w_I x.2.2.2.2.2.2.2.2.2.2.2.2.2.2.1 + 1 + 1 + sumN w_B x.2.2.2.2.2.2.2.2.2.2.2.2.2.2.2.2.2.1 + 1 + 1 + sumN w_Cand x.2.2.2.2.2.2.2.2.2.2.2.2.2.2.2.2.2.2.2.2.1 + 1 + 1 + 1 := rfl
    rw [hk]
    unfold B_l_heldSessS_2
    simp only [val_br, val_ob, val_leaf, val_chk, val_sm, mkL_len, lt_dec hi, br_t, idx_at ht, ob_s, m_Sess, bne_self, br_f]
    simp (maxSteps := 4000000) (disch := first | omega | (dsimp only; omega)) only [w64, ob_s, bne_self, beq_self_eq_true, Bool.not_true, br_f, nn_dec, chk_t, dec_t, held_ByteS, held_ByteSS, held_Jar, held_Dice, held_IntS, held_CandS]) (fun k => by
    unfold B_l_heldSessS_2
    simp only [val_br, val_ob, val_leaf, val_chk, val_sm, mkL_len, ge_dec, br_f]) h0 h1
  unfold V_l_heldSessS T_l_heldSessS
  simp only [val_br, val_ob, val_leaf, val_chk, val_sm]
  rw [e]
  rfl
theorem sz_Tab (d : YTab) (n : Int) (h0 : -1 ≤ n) (h1 : n ≤ 1099511627776) (hl : lo_Tab d) : V_l_szTab d (n, ()) = some (szR (need_Tab d) n, ()) := by
  unfold lo_Tab at hl
  obtain ⟨hl0, hl1⟩ := hl
  unfold V_l_szTab T_l_szTab
  simp only [val_br, val_ob, val_leaf, val_chk, val_sm]
  simp (disch := first | omega | (dsimp only; omega) | exact szR_ge _ _ | exact szR_le (by omega) (by omega) | ((repeat' (first | assumption | apply And.intro)); done) | ((first | unfold lo_Tab | unfold lo_Jar | unfold lo_Dice | unfold lo_Win | unfold lo_Ep | unfold lo_Chan | unfold lo_Addr | unfold lo_Cand | unfold lo_Paths | unfold lo_Sess); dsimp only; (repeat' (first | assumption | apply And.intro)); done)) only [sz_ByteS, sz_ByteSS, sz_Jar, sz_Dice, sz_IntS, sz_Win, sz_Ep, sz_Chan, sz_Cand, sz_CandS, sz_Paths, sz_Sess, sz_SessS, ob_s, szR_szR]
  all_goals try simp (disch := first | omega | (simp only [need_Tab, need_Jar, need_Dice, need_Win, need_Ep, need_Chan, need_Addr, need_Cand, need_Paths, need_Sess]; omega)) only [brsz]
  all_goals (first | rfl | (refine congrArg (fun t => some (szR t n, ())) ?_; simp only [need_Tab, need_Jar, need_Dice, need_Win, need_Ep, need_Chan, need_Addr, need_Cand, need_Paths, need_Sess]; omega))
theorem to_Tab (d : YTab) (h : need_Tab d ≤ 4294967296) : V_l_toTab d = some d := by
  have hn : need_Tab d = d.2.1.length + sumN need_Sess d.2.1 := rfl
  unfold V_l_toTab T_l_toTab
  simp only [val_br, val_ob, val_leaf, val_chk, val_sm]
  simp (disch := first | omega | (simp only [need_Tab, need_Jar, need_Dice, need_Win, need_Ep, need_Chan, need_Addr, need_Cand, need_Paths, need_Sess]; omega)) only [to_ByteS, to_ByteSS, to_Jar, to_Dice, to_IntS, to_Win, to_Ep, to_Chan, to_Addr, to_Cand, to_CandS, to_Paths, to_Sess, to_SessS, ob_s]
  all_goals rfl
theorem eq_Tab (d : YTab) (h : need_Tab d ≤ 4294967296) : V_l_eqTab d d = some (true, ()) := by
  have hn : need_Tab d = d.2.1.length + sumN need_Sess d.2.1 := rfl
  unfold V_l_eqTab T_l_eqTab
  simp (disch := first | omega | (simp only [need_Tab, need_Jar, need_Dice, need_Win, need_Ep, need_Chan, need_Addr, need_Cand, need_Paths, need_Sess]; omega)) only [val_br, val_ob, val_leaf, val_chk, val_sm, bne_self, beq_self_eq_true, br_f, ob_s, Bool.not_true, eq_ByteS, eq_ByteSS, eq_Jar, eq_Dice, eq_IntS, eq_Win, eq_Ep, eq_Chan, eq_Addr, eq_Cand, eq_CandS, eq_Paths, eq_Sess, eq_SessS]
theorem mark_Tab (d : YTab) (k : Int) (h0 : 0 ≤ k) (h1 : k + (wt_Tab d : Nat) ≤ 4611686018427387904) (hl : need_Tab d ≤ 4294967296) : V_l_markTab d (k, ()) = some ((k + (wt_Tab d : Nat), ()), (d.1, mkL m_Sess w_Sess d.2.1 (k), ())) := by
  have hn : need_Tab d = d.2.1.length + sumN need_Sess d.2.1 := rfl
  have hw : wt_Tab d = sumN w_Sess d.2.1 := rfl
  have hk : k + ((wt_Tab d : Nat) : Int) = k + (sumN w_Sess d.2.1 : Nat) := by simp only [wt_Tab]; all_goals omega
  rw [hk]
  unfold V_l_markTab T_l_markTab
  simp (maxSteps := 4000000) (disch := first | omega | (dsimp only; omega)) only [val_br, val_ob, val_leaf, val_chk, val_sm, ob_s, mark_ByteS, mark_ByteSS, mark_Jar, mark_Dice, mark_IntS, mark_CandS, mark_SessS]
theorem held_Tab (d : YTab) (k : Int) (h0 : 0 ≤ k) (h1 : k + (wt_Tab d : Nat) ≤ 4611686018427387904) (hl : need_Tab d ≤ 4294967296) : V_l_heldTab (d.1, mkL m_Sess w_Sess d.2.1 (k), ()) (k, ()) = some (k + (wt_Tab d : Nat), ()) := by
  have hn : need_Tab d = d.2.1.length + sumN need_Sess d.2.1 := rfl
  have hw : wt_Tab d = sumN w_Sess d.2.1 := rfl
  have hk : k + ((wt_Tab d : Nat) : Int) = k + (sumN w_Sess d.2.1 : Nat) := by simp only [wt_Tab]; all_goals omega
  rw [hk]
  unfold V_l_heldTab T_l_heldTab
  simp (maxSteps := 4000000) (disch := first | omega | (dsimp only; omega)) only [val_br, val_ob, val_leaf, val_chk, val_sm, ob_s, br_f, nn_dec, held_ByteS, held_ByteSS, held_Jar, held_Dice, held_IntS, held_CandS, held_SessS]
theorem heldc_Tab (c0 : Int) (c1 : List YSess) (k : Int) (h0 : 0 ≤ k) (h1 : k + (wt_Tab (c0, c1, ()) : Nat) ≤ 4611686018427387904) (hl : need_Tab (c0, c1, ()) ≤ 4294967296) : V_l_heldTab (c0, mkL m_Sess w_Sess c1 (k), ()) (k, ()) = some (k + (wt_Tab (c0, c1, ()) : Nat), ()) := held_Tab (c0, c1, ()) k h0 h1 hl
theorem to_Credit (d : YCredit) : V_l_toCredit d = some d := by
  have hn : need_Credit d = 0 := rfl
  unfold V_l_toCredit T_l_toCredit
  simp only [val_br, val_ob, val_leaf, val_chk, val_sm]
  simp (disch := first | omega | (simp only [need_Credit, need_Jar, need_Dice, need_Win, need_Ep, need_Chan, need_Addr, need_Cand, need_Paths, need_Sess, need_Tab]; omega)) only [to_ByteS, to_ByteSS, to_Jar, to_Dice, to_IntS, to_Win, to_Ep, to_Chan, to_Addr, to_Cand, to_CandS, to_Paths, to_Sess, to_SessS, to_Tab, ob_s]
  all_goals rfl
theorem eq_Credit (d : YCredit) : V_l_eqCredit d d = some (true, ()) := by
  have hn : need_Credit d = 0 := rfl
  unfold V_l_eqCredit T_l_eqCredit
  simp (disch := first | omega | (simp only [need_Credit, need_Jar, need_Dice, need_Win, need_Ep, need_Chan, need_Addr, need_Cand, need_Paths, need_Sess, need_Tab]; omega)) only [val_br, val_ob, val_leaf, val_chk, val_sm, bne_self, beq_self_eq_true, br_f, ob_s, Bool.not_true, eq_ByteS, eq_ByteSS, eq_Jar, eq_Dice, eq_IntS, eq_Win, eq_Ep, eq_Chan, eq_Addr, eq_Cand, eq_CandS, eq_Paths, eq_Sess, eq_SessS, eq_Tab]
theorem sz_CreditS (d : List YCredit × Unit) (n : Int) (h0 : -1 ≤ n) (h1 : n ≤ 1099511627776) (hl : d.1.length ≤ 9223372036854775807) : V_l_szCreditS d (n, ()) = some (szR (d.1.length) n, ()) := by
  unfold V_l_szCreditS T_l_szCreditS
  simp only [val_br, val_leaf]
  simp (disch := omega) only [w64]
  unfold szR
  rw [br_i]
  by_cases h : (d.1.length : Int) ≤ n
  · simp only [decide_eq_true_eq, if_neg (show ¬ (n - (d.1.length : Int) < 0) by omega), if_pos h]
  · simp only [decide_eq_true_eq, if_pos (show n - (d.1.length : Int) < 0 by omega), if_neg h]
theorem to_CreditS (d : List YCredit × Unit) (h : d.1.length ≤ 4294967296) : V_l_toCreditS d = some d := by
  have e := fun (m : List YCredit) (hm : m.length = d.1.length) => loop_to (B := B_l_toCreditS_3) (m := m) (l := d.1) (ok := fun _ => True) (fun m i x y hx hi hy => by
    unfold B_l_toCreditS_3
    simp only [val_br, val_ob, val_leaf, val_chk, val_sm, lt_dec hi, br_t, idx_at hx, idx_at hy, ob_s, Int.toNat_natCast]
    rw [to_Credit x, ob_s]
    try simp only [idx_at hy, ob_s, Int.toNat_natCast]
    rw [w64 (by omega)]) (fun m => by
    unfold B_l_toCreditS_3
    simp only [val_br, val_ob, val_leaf, val_chk, val_sm, ge_dec, br_f]) hm
  unfold V_l_toCreditS T_l_toCreditS
  simp only [val_br, val_ob, val_leaf, val_chk, val_sm, decide_true]
  rw [dec_t (by omega), dec_t (by omega), chk_t, chk_t, chk_t, e _ (by simp)]
  rfl
theorem eq_CreditS (d : List YCredit × Unit) (h : d.1.length ≤ 4294967296) : V_l_eqCreditS d d = some (true, ()) := by
  have e := loop_eq (B := B_l_eqCreditS_4) (l := d.1) (fun i x hx hi => by
    unfold B_l_eqCreditS_4
    simp only [val_br, val_ob, val_leaf, val_chk, val_sm, lt_dec hi, br_t, idx_at hx, ob_s, bne_self, br_f]
    rw [eq_Credit x, ob_s]
    try simp only [Bool.not_true, br_f]
    rw [w64 (by omega)]) (by
    unfold B_l_eqCreditS_4
    simp only [val_br, val_ob, val_leaf, val_chk, val_sm, ge_dec, br_f])
  unfold V_l_eqCreditS T_l_eqCreditS
  simp only [val_br, val_ob, val_leaf, val_chk, val_sm, bne_self, br_f]
  rw [e]
  rfl
theorem mark_CreditS (d : List YCredit × Unit) (k : Int) (h0 : 0 ≤ k) (h1 : k + (sumN w_Credit d.1 : Nat) ≤ 4611686018427387904) : V_l_markCreditS d (k, ()) = some ((k + (sumN w_Credit d.1 : Nat), ()), (mkL m_Credit w_Credit d.1 k, ())) := by
  have hl := len_le_sumN (w := w_Credit) (fun x => by simp only [w_Credit]; omega) d.1
  have e := loop_mark (B := B_l_markCreditS_2) m_Credit w_Credit (l := d.1) (fun t k i x ht hx hlen h0 h1 hi => by
    have hit : i < t.length := by omega
    have hw : w_Credit x = 1 + 1 + 1 + 1 := rfl
    have hk : k + ((w_Credit x : Nat) : Int) = k + 1 + 1 + 1 + 1 := by simp only [w_Credit]; all_goals omega
    rw [hk]
    unfold B_l_markCreditS_2
    simp (maxSteps := 4000000) only [val_br, val_ob, val_leaf, val_chk, val_sm, lt_dec hit, br_t, idx_at ht, ob_s, Int.toNat_natCast]
    simp (maxSteps := 4000000) (disch := first | omega | (dsimp only; omega) | (simp only [List.length_set]; omega)) only [w64, idx_set, List.set_set, ob_s, Int.toNat_natCast, chk_t, dec_t, mark_ByteS, mark_ByteSS, mark_Jar, mark_Dice, mark_IntS, mark_CandS, mark_SessS, mark_Tab]
    rfl) (fun t k hlen => by
    unfold B_l_markCreditS_2
    exact (val_br _ _ _).trans ((br_ff (by simp [hlen])).trans rfl)) h0 h1
  unfold V_l_markCreditS T_l_markCreditS
  simp only [val_br, val_ob, val_leaf, val_chk, val_sm]
  rw [e]
  rfl
theorem held_CreditS (d : List YCredit) (k : Int) (h0 : 0 ≤ k) (h1 : k + (sumN w_Credit d : Nat) ≤ 4611686018427387904) : V_l_heldCreditS (mkL m_Credit w_Credit d k, ()) (k, ()) = some (k + (sumN w_Credit d : Nat), ()) := by
  have hl := len_le_sumN (w := w_Credit) (fun x => by simp only [w_Credit]; omega) d
  have e := loop_held (B := B_l_heldCreditS_2) m_Credit w_Credit (l := d) (k := k) (fun k i x ht hx h0 h1 hi => by
    have hk : k + ((w_Credit x : Nat) : Int) = k + 1 + 1 + 1 + 1 := by simp only [w_Credit]; all_goals omega
    have hw : w_Credit x = 1 + 1 + 1 + 1 := rfl
    rw [hk]
    unfold B_l_heldCreditS_2
    simp only [val_br, val_ob, val_leaf, val_chk, val_sm, mkL_len, lt_dec hi, br_t, idx_at ht, ob_s, m_Credit, bne_self, br_f]
    simp (maxSteps := 4000000) (disch := first | omega | (dsimp only; omega)) only [w64, ob_s, bne_self, beq_self_eq_true, Bool.not_true, br_f, nn_dec, chk_t, dec_t, held_ByteS, held_ByteSS, held_Jar, held_Dice, held_IntS, held_CandS, held_SessS, held_Tab]) (fun k => by
    unfold B_l_heldCreditS_2
    simp only [val_br, val_ob, val_leaf, val_chk, val_sm, mkL_len, ge_dec, br_f]) h0 h1
  unfold V_l_heldCreditS T_l_heldCreditS
  simp only [val_br, val_ob, val_leaf, val_chk, val_sm]
  rw [e]
  rfl
theorem sz_Server (d : YServer) (n : Int) (h0 : -1 ≤ n) (h1 : n ≤ 1099511627776) (hl : lo_Server d) : V_l_szServer d (n, ()) = some (szR (need_Server d) n, ()) := by
  unfold lo_Server at hl
  obtain ⟨hl0, hl1, hl2, hl3, hl4, hl5, hl6⟩ := hl
  unfold V_l_szServer T_l_szServer
  simp only [val_br, val_ob, val_leaf, val_chk, val_sm]
  simp (disch := first | omega | (dsimp only; omega) | exact szR_ge _ _ | exact szR_le (by omega) (by omega) | ((repeat' (first | assumption | apply And.intro)); done) | ((first | unfold lo_Server | unfold lo_Jar | unfold lo_Dice | unfold lo_Win | unfold lo_Ep | unfold lo_Chan | unfold lo_Addr | unfold lo_Cand | unfold lo_Paths | unfold lo_Sess | unfold lo_Tab | unfold lo_Credit); dsimp only; (repeat' (first | assumption | apply And.intro)); done)) only [sz_ByteS, sz_ByteSS, sz_Jar, sz_Dice, sz_IntS, sz_Win, sz_Ep, sz_Chan, sz_Cand, sz_CandS, sz_Paths, sz_Sess, sz_SessS, sz_Tab, sz_CreditS, ob_s, szR_szR]
  all_goals try simp (disch := first | omega | (simp only [need_Server, need_Jar, need_Dice, need_Win, need_Ep, need_Chan, need_Addr, need_Cand, need_Paths, need_Sess, need_Tab, need_Credit]; omega)) only [brsz]
  all_goals (first | rfl | (refine congrArg (fun t => some (szR t n, ())) ?_; simp only [need_Server, need_Jar, need_Dice, need_Win, need_Ep, need_Chan, need_Addr, need_Cand, need_Paths, need_Sess, need_Tab, need_Credit]; omega))
theorem to_Server (d : YServer) (h : need_Server d ≤ 4294967296) : V_l_toServer d = some d := by
  have hn : need_Server d = d.1.length + sumN need_Bs d.1 + d.2.1.length + d.2.2.1.length + d.2.2.2.2.2.1.length + sumN need_Sess d.2.2.2.2.2.1 + d.2.2.2.2.2.2.1.length := rfl
  unfold V_l_toServer T_l_toServer
  simp only [val_br, val_ob, val_leaf, val_chk, val_sm]
  simp (disch := first | omega | (simp only [need_Server, need_Jar, need_Dice, need_Win, need_Ep, need_Chan, need_Addr, need_Cand, need_Paths, need_Sess, need_Tab, need_Credit]; omega)) only [to_ByteS, to_ByteSS, to_Jar, to_Dice, to_IntS, to_Win, to_Ep, to_Chan, to_Addr, to_Cand, to_CandS, to_Paths, to_Sess, to_SessS, to_Tab, to_Credit, to_CreditS, ob_s]
  all_goals rfl
theorem eq_Server (d : YServer) (h : need_Server d ≤ 4294967296) : V_l_eqServer d d = some (true, ()) := by
  have hn : need_Server d = d.1.length + sumN need_Bs d.1 + d.2.1.length + d.2.2.1.length + d.2.2.2.2.2.1.length + sumN need_Sess d.2.2.2.2.2.1 + d.2.2.2.2.2.2.1.length := rfl
  unfold V_l_eqServer T_l_eqServer
  simp (disch := first | omega | (simp only [need_Server, need_Jar, need_Dice, need_Win, need_Ep, need_Chan, need_Addr, need_Cand, need_Paths, need_Sess, need_Tab, need_Credit]; omega)) only [val_br, val_ob, val_leaf, val_chk, val_sm, bne_self, beq_self_eq_true, br_f, ob_s, Bool.not_true, eq_ByteS, eq_ByteSS, eq_Jar, eq_Dice, eq_IntS, eq_Win, eq_Ep, eq_Chan, eq_Addr, eq_Cand, eq_CandS, eq_Paths, eq_Sess, eq_SessS, eq_Tab, eq_Credit, eq_CreditS]
theorem mark_Server (d : YServer) (k : Int) (h0 : 0 ≤ k) (h1 : k + (wt_Server d : Nat) ≤ 4611686018427387904) (hl : need_Server d ≤ 4294967296) : V_l_markServer d (k, ()) = some ((k + (wt_Server d : Nat), ()), (mkL m_Bs w_Bs d.1 (k), mkL m_B w_B d.2.1 (k + (sumN w_Bs d.1 : Nat)), mkL m_B w_B d.2.2.1 (k + (sumN w_Bs d.1 : Nat) + (sumN w_B d.2.1 : Nat)), d.2.2.2.1, d.2.2.2.2.1, mkL m_Sess w_Sess d.2.2.2.2.2.1 (k + (sumN w_Bs d.1 : Nat) + (sumN w_B d.2.1 : Nat) + (sumN w_B d.2.2.1 : Nat)), mkL m_Credit w_Credit d.2.2.2.2.2.2.1 (k + (sumN w_Bs d.1 : Nat) + (sumN w_B d.2.1 : Nat) + (sumN w_B d.2.2.1 : Nat) + (sumN w_Sess d.2.2.2.2.2.1 : Nat)), ())) := by
  have hn : need_Server d = d.1.length + sumN need_Bs d.1 + d.2.1.length + d.2.2.1.length + d.2.2.2.2.2.1.length + sumN need_Sess d.2.2.2.2.2.1 + d.2.2.2.2.2.2.1.length := rfl
  have hw : wt_Server d = sumN w_Bs d.1 + sumN w_B d.2.1 + sumN w_B d.2.2.1 + sumN w_Sess d.2.2.2.2.2.1 + sumN w_Credit d.2.2.2.2.2.2.1 := rfl
  have hk : k + ((wt_Server d : Nat) : Int) = k + (sumN w_Bs d.1 : Nat) + (sumN w_B d.2.1 : Nat) + (sumN w_B d.2.2.1 : Nat) + (sumN w_Sess d.2.2.2.2.2.1 : Nat) + (sumN w_Credit d.2.2.2.2.2.2.1 : Nat) := by simp only [wt_Server]; all_goals omega
  rw [hk]
  unfold V_l_markServer T_l_markServer
  simp (maxSteps := 4000000) (disch := first | omega | (dsimp only; omega) | (simp only [need_Jar, wt_Jar, need_Dice, wt_Dice, need_Tab, wt_Tab, Int.natCast_add]; omega)) only [val_br, val_ob, val_leaf, val_chk, val_sm, ob_s, mark_ByteS, mark_ByteSS, mark_Jar, mark_Dice, mark_IntS, mark_CandS, mark_SessS, mark_Tab, mark_CreditS, wt_Jar, wt_Dice, wt_Tab, Int.natCast_add, ← Int.add_assoc]
theorem held_Server (d : YServer) (k : Int) (h0 : 0 ≤ k) (h1 : k + (wt_Server d : Nat) ≤ 4611686018427387904) (hl : need_Server d ≤ 4294967296) : V_l_heldServer (mkL m_Bs w_Bs d.1 (k), mkL m_B w_B d.2.1 (k + (sumN w_Bs d.1 : Nat)), mkL m_B w_B d.2.2.1 (k + (sumN w_Bs d.1 : Nat) + (sumN w_B d.2.1 : Nat)), d.2.2.2.1, d.2.2.2.2.1, mkL m_Sess w_Sess d.2.2.2.2.2.1 (k + (sumN w_Bs d.1 : Nat) + (sumN w_B d.2.1 : Nat) + (sumN w_B d.2.2.1 : Nat)), mkL m_Credit w_Credit d.2.2.2.2.2.2.1 (k + (sumN w_Bs d.1 : Nat) + (sumN w_B d.2.1 : Nat) + (sumN w_B d.2.2.1 : Nat) + (sumN w_Sess d.2.2.2.2.2.1 : Nat)), ()) (k, ()) = some (k + (wt_Server d : Nat), ()) := by
  have hn : need_Server d = d.1.length + sumN need_Bs d.1 + d.2.1.length + d.2.2.1.length + d.2.2.2.2.2.1.length + sumN need_Sess d.2.2.2.2.2.1 + d.2.2.2.2.2.2.1.length := rfl
  have hw : wt_Server d = sumN w_Bs d.1 + sumN w_B d.2.1 + sumN w_B d.2.2.1 + sumN w_Sess d.2.2.2.2.2.1 + sumN w_Credit d.2.2.2.2.2.2.1 := rfl
  have hk : k + ((wt_Server d : Nat) : Int) = k + (sumN w_Bs d.1 : Nat) + (sumN w_B d.2.1 : Nat) + (sumN w_B d.2.2.1 : Nat) + (sumN w_Sess d.2.2.2.2.2.1 : Nat) + (sumN w_Credit d.2.2.2.2.2.2.1 : Nat) := by simp only [wt_Server]; all_goals omega
  rw [hk]
  unfold V_l_heldServer T_l_heldServer
  simp (maxSteps := 4000000) (disch := first | omega | (dsimp only; omega) | (simp only [need_Jar, wt_Jar, need_Dice, wt_Dice, need_Tab, wt_Tab, Int.natCast_add]; omega)) only [val_br, val_ob, val_leaf, val_chk, val_sm, ob_s, br_f, nn_dec, held_ByteS, held_ByteSS, held_Jar, held_Dice, held_IntS, held_CandS, held_SessS, held_Tab, held_CreditS, wt_Jar, wt_Dice, wt_Tab, Int.natCast_add, ← Int.add_assoc, heldc_Jar, heldc_Dice, heldc_Tab]
theorem eq_Frame (d : YFrame) (h : need_Frame d ≤ 4294967296) : V_l_eqFrame d d = some (true, ()) := by
  have hn : need_Frame d = d.2.2.1.length + d.2.2.2.1.length + d.2.2.2.2.2.1.length + d.2.2.2.2.2.2.1.length + d.2.2.2.2.2.2.2.2.2.1.length + d.2.2.2.2.2.2.2.2.2.2.1.length := rfl
  unfold V_l_eqFrame T_l_eqFrame
  simp (disch := first | omega | (simp only [need_Frame, need_Jar, need_Dice, need_Win, need_Ep, need_Chan, need_Addr, need_Cand, need_Paths, need_Sess, need_Tab, need_Credit, need_Server]; omega)) only [val_br, val_ob, val_leaf, val_chk, val_sm, bne_self, beq_self_eq_true, br_f, ob_s, Bool.not_true, eq_ByteS, eq_ByteSS, eq_Jar, eq_Dice, eq_IntS, eq_Win, eq_Ep, eq_Chan, eq_Addr, eq_Cand, eq_CandS, eq_Paths, eq_Sess, eq_SessS, eq_Tab, eq_Credit, eq_CreditS, eq_Server]
theorem eq_Out (d : YOut) (h : need_Out d ≤ 4294967296) : V_l_eqOut d d = some (true, ()) := by
  have hn : need_Out d = d.2.2.2.2.1.length + d.2.2.2.2.2.1.length + d.2.2.2.2.2.2.2.1.length + d.2.2.2.2.2.2.2.2.1.length + d.2.2.2.2.2.2.2.2.2.2.2.1.length + d.2.2.2.2.2.2.2.2.2.2.2.2.1.length := rfl
  unfold V_l_eqOut T_l_eqOut
  simp (disch := first | omega | (simp only [need_Out, need_Jar, need_Dice, need_Win, need_Ep, need_Chan, need_Addr, need_Cand, need_Paths, need_Sess, need_Tab, need_Credit, need_Server, need_Frame]; omega)) only [val_br, val_ob, val_leaf, val_chk, val_sm, bne_self, beq_self_eq_true, br_f, ob_s, Bool.not_true, eq_ByteS, eq_ByteSS, eq_Jar, eq_Dice, eq_IntS, eq_Win, eq_Ep, eq_Chan, eq_Addr, eq_Cand, eq_CandS, eq_Paths, eq_Sess, eq_SessS, eq_Tab, eq_Credit, eq_CreditS, eq_Server, eq_Frame]
theorem eq_OutS (d : List YOut × Unit) (h : d.1.length + sumN need_Out d.1 ≤ 4294967296) : V_l_eqOutS d d = some (true, ()) := by
  have e := loop_eq (B := B_l_eqOutS_4) (l := d.1) (fun i x hx hi => by
    unfold B_l_eqOutS_4
    simp only [val_br, val_ob, val_leaf, val_chk, val_sm, lt_dec hi, br_t, idx_at hx, ob_s, bne_self, br_f]
    have hx2 := sumN_at (f := need_Out) hx
    rw [eq_Out x (by first | omega | (simp only [need_Out] at *; omega)), ob_s]
    try simp only [Bool.not_true, br_f]
    rw [w64 (by omega)]) (by
    unfold B_l_eqOutS_4
    simp only [val_br, val_ob, val_leaf, val_chk, val_sm, ge_dec, br_f])
  unfold V_l_eqOutS T_l_eqOutS
  simp only [val_br, val_ob, val_leaf, val_chk, val_sm, bne_self, br_f]
  rw [e]
  rfl
theorem mark_OutS (d : List YOut × Unit) (k : Int) (h0 : 0 ≤ k) (h1 : k + (sumN w_Out d.1 : Nat) ≤ 4611686018427387904) : V_l_markOutS d (k, ()) = some ((k + (sumN w_Out d.1 : Nat), ()), (mkL m_Out w_Out d.1 k, ())) := by
  have hl := len_le_sumN (w := w_Out) (fun x => by simp only [w_Out]; omega) d.1
  have e := loop_mark (B := B_l_markOutS_2) m_Out w_Out (l := d.1) (fun t k i x ht hx hlen h0 h1 hi => by
    have hit : i < t.length := by omega
    have hw : w_Out x = 1 + 1 + 1 + 1 + sumN w_B x.2.2.2.2.1 + sumN w_B x.2.2.2.2.2.1 + 1 + sumN w_B x.2.2.2.2.2.2.2.1 + sumN w_B x.2.2.2.2.2.2.2.2.1 + 1 + 1 + sumN w_B x.2.2.2.2.2.2.2.2.2.2.2.1 + sumN w_B x.2.2.2.2.2.2.2.2.2.2.2.2.1 := rfl
    have hk : k + ((w_Out x : Nat) : Int) = k + 1 + 1 + 1 + 1 + (sumN w_B x.2.2.2.2.1 : Nat) + (sumN w_B x.2.2.2.2.2.1 : Nat) + 1 + (sumN w_B x.2.2.2.2.2.2.2.1 : Nat) + (sumN w_B x.2.2.2.2.2.2.2.2.1 : Nat) + 1 + 1 + (sumN w_B x.2.2.2.2.2.2.2.2.2.2.2.1 : Nat) + (sumN w_B x.2.2.2.2.2.2.2.2.2.2.2.2.1 : Nat) := by simp only [w_Out]; all_goals omega
    rw [hk]
    unfold B_l_markOutS_2
    simp (maxSteps := 4000000) only [val_br, val_ob, val_leaf, val_chk, val_sm, lt_dec hit, br_t, idx_at ht, ob_s, Int.toNat_natCast]
    simp (maxSteps := 4000000) (disch := first | omega | (dsimp only; omega) | (simp only [List.length_set]; omega)) only [w64, idx_set, List.set_set, ob_s, Int.toNat_natCast, chk_t, dec_t, mark_ByteS, mark_ByteSS, mark_Jar, mark_Dice, mark_IntS, mark_CandS, mark_SessS, mark_Tab, mark_CreditS, mark_Server]
    rfl) (fun t k hlen => by
    unfold B_l_markOutS_2
    exact (val_br _ _ _).trans ((br_ff (by simp [hlen])).trans rfl)) h0 h1
  unfold V_l_markOutS T_l_markOutS
  simp only [val_br, val_ob, val_leaf, val_chk, val_sm]
  rw [e]
  rfl
theorem held_OutS (d : List YOut) (k : Int) (h0 : 0 ≤ k) (h1 : k + (sumN w_Out d : Nat) ≤ 4611686018427387904) : V_l_heldOutS (mkL m_Out w_Out d k, ()) (k, ()) = some (k + (sumN w_Out d : Nat), ()) := by
  have hl := len_le_sumN (w := w_Out) (fun x => by simp only [w_Out]; omega) d
  have e := loop_held (B := B_l_heldOutS_2) m_Out w_Out (l := d) (k := k) (fun k i x ht hx h0 h1 hi => by
    have hk : k + ((w_Out x : Nat) : Int) = k + 1 + 1 + 1 + 1 + (sumN w_B x.2.2.2.2.1 : Nat) + (sumN w_B x.2.2.2.2.2.1 : Nat) + 1 + (sumN w_B x.2.2.2.2.2.2.2.1 : Nat) + (sumN w_B x.2.2.2.2.2.2.2.2.1 : Nat) + 1 + 1 + (sumN w_B x.2.2.2.2.2.2.2.2.2.2.2.1 : Nat) + (sumN w_B x.2.2.2.2.2.2.2.2.2.2.2.2.1 : Nat) := by simp only [w_Out]; all_goals omega
    have hw : w_Out x = 1 + 1 + 1 + 1 + sumN w_B x.2.2.2.2.1 + sumN w_B x.2.2.2.2.2.1 + 1 + sumN w_B x.2.2.2.2.2.2.2.1 + sumN w_B x.2.2.2.2.2.2.2.2.1 + 1 + 1 + sumN w_B x.2.2.2.2.2.2.2.2.2.2.2.1 + sumN w_B x.2.2.2.2.2.2.2.2.2.2.2.2.1 := rfl
    rw [hk]
    unfold B_l_heldOutS_2
    simp only [val_br, val_ob, val_leaf, val_chk, val_sm, mkL_len, lt_dec hi, br_t, idx_at ht, ob_s, m_Out, bne_self, br_f]
    simp (maxSteps := 4000000) (disch := first | omega | (dsimp only; omega)) only [w64, ob_s, bne_self, beq_self_eq_true, Bool.not_true, br_f, nn_dec, chk_t, dec_t, held_ByteS, held_ByteSS, held_Jar, held_Dice, held_IntS, held_CandS, held_SessS, held_Tab, held_CreditS, held_Server]) (fun k => by
    unfold B_l_heldOutS_2
    simp only [val_br, val_ob, val_leaf, val_chk, val_sm, mkL_len, ge_dec, br_f]) h0 h1
  unfold V_l_heldOutS T_l_heldOutS
  simp only [val_br, val_ob, val_leaf, val_chk, val_sm]
  rw [e]
  rfl
theorem eq_Note (d : YNote) (h : need_Note d ≤ 4294967296) : V_l_eqNote d d = some (true, ()) := by
  have hn : need_Note d = d.2.2.2.1.length + d.2.2.2.2.1.length + d.2.2.2.2.2.2.2.1.length + d.2.2.2.2.2.2.2.2.1.length := rfl
  unfold V_l_eqNote T_l_eqNote
  simp (disch := first | omega | (simp only [need_Note, need_Jar, need_Dice, need_Win, need_Ep, need_Chan, need_Addr, need_Cand, need_Paths, need_Sess, need_Tab, need_Credit, need_Server, need_Frame, need_Out]; omega)) only [val_br, val_ob, val_leaf, val_chk, val_sm, bne_self, beq_self_eq_true, br_f, ob_s, Bool.not_true, eq_ByteS, eq_ByteSS, eq_Jar, eq_Dice, eq_IntS, eq_Win, eq_Ep, eq_Chan, eq_Addr, eq_Cand, eq_CandS, eq_Paths, eq_Sess, eq_SessS, eq_Tab, eq_Credit, eq_CreditS, eq_Server, eq_Frame, eq_Out, eq_OutS]
theorem eq_NoteS (d : List YNote × Unit) (h : d.1.length + sumN need_Note d.1 ≤ 4294967296) : V_l_eqNoteS d d = some (true, ()) := by
  have e := loop_eq (B := B_l_eqNoteS_4) (l := d.1) (fun i x hx hi => by
    unfold B_l_eqNoteS_4
    simp only [val_br, val_ob, val_leaf, val_chk, val_sm, lt_dec hi, br_t, idx_at hx, ob_s, bne_self, br_f]
    have hx2 := sumN_at (f := need_Note) hx
    rw [eq_Note x (by first | omega | (simp only [need_Note] at *; omega)), ob_s]
    try simp only [Bool.not_true, br_f]
    rw [w64 (by omega)]) (by
    unfold B_l_eqNoteS_4
    simp only [val_br, val_ob, val_leaf, val_chk, val_sm, ge_dec, br_f])
  unfold V_l_eqNoteS T_l_eqNoteS
  simp only [val_br, val_ob, val_leaf, val_chk, val_sm, bne_self, br_f]
  rw [e]
  rfl
theorem mark_NoteS (d : List YNote × Unit) (k : Int) (h0 : 0 ≤ k) (h1 : k + (sumN w_Note d.1 : Nat) ≤ 4611686018427387904) : V_l_markNoteS d (k, ()) = some ((k + (sumN w_Note d.1 : Nat), ()), (mkL m_Note w_Note d.1 k, ())) := by
  have hl := len_le_sumN (w := w_Note) (fun x => by simp only [w_Note]; omega) d.1
  have e := loop_mark (B := B_l_markNoteS_2) m_Note w_Note (l := d.1) (fun t k i x ht hx hlen h0 h1 hi => by
    have hit : i < t.length := by omega
    have hw : w_Note x = 1 + 1 + 1 + sumN w_B x.2.2.2.1 + sumN w_B x.2.2.2.2.1 + 1 + 1 + sumN w_B x.2.2.2.2.2.2.2.1 + sumN w_B x.2.2.2.2.2.2.2.2.1 + 1 + 1 + 1 := rfl
    have hk : k + ((w_Note x : Nat) : Int) = k + 1 + 1 + 1 + (sumN w_B x.2.2.2.1 : Nat) + (sumN w_B x.2.2.2.2.1 : Nat) + 1 + 1 + (sumN w_B x.2.2.2.2.2.2.2.1 : Nat) + (sumN w_B x.2.2.2.2.2.2.2.2.1 : Nat) + 1 + 1 + 1 := by simp only [w_Note]; all_goals omega
    rw [hk]
    unfold B_l_markNoteS_2
    simp (maxSteps := 4000000) only [val_br, val_ob, val_leaf, val_chk, val_sm, lt_dec hit, br_t, idx_at ht, ob_s, Int.toNat_natCast]
    simp (maxSteps := 4000000) (disch := first | omega | (dsimp only; omega) | (simp only [List.length_set]; omega)) only [w64, idx_set, List.set_set, ob_s, Int.toNat_natCast, chk_t, dec_t, mark_ByteS, mark_ByteSS, mark_Jar, mark_Dice, mark_IntS, mark_CandS, mark_SessS, mark_Tab, mark_CreditS, mark_Server, mark_OutS]
    rfl) (fun t k hlen => by
    unfold B_l_markNoteS_2
    exact (val_br _ _ _).trans ((br_ff (by simp [hlen])).trans rfl)) h0 h1
  unfold V_l_markNoteS T_l_markNoteS
  simp only [val_br, val_ob, val_leaf, val_chk, val_sm]
  rw [e]
  rfl
theorem held_NoteS (d : List YNote) (k : Int) (h0 : 0 ≤ k) (h1 : k + (sumN w_Note d : Nat) ≤ 4611686018427387904) : V_l_heldNoteS (mkL m_Note w_Note d k, ()) (k, ()) = some (k + (sumN w_Note d : Nat), ()) := by
  have hl := len_le_sumN (w := w_Note) (fun x => by simp only [w_Note]; omega) d
  have e := loop_held (B := B_l_heldNoteS_2) m_Note w_Note (l := d) (k := k) (fun k i x ht hx h0 h1 hi => by
    have hk : k + ((w_Note x : Nat) : Int) = k + 1 + 1 + 1 + (sumN w_B x.2.2.2.1 : Nat) + (sumN w_B x.2.2.2.2.1 : Nat) + 1 + 1 + (sumN w_B x.2.2.2.2.2.2.2.1 : Nat) + (sumN w_B x.2.2.2.2.2.2.2.2.1 : Nat) + 1 + 1 + 1 := by simp only [w_Note]; all_goals omega
    have hw : w_Note x = 1 + 1 + 1 + sumN w_B x.2.2.2.1 + sumN w_B x.2.2.2.2.1 + 1 + 1 + sumN w_B x.2.2.2.2.2.2.2.1 + sumN w_B x.2.2.2.2.2.2.2.2.1 + 1 + 1 + 1 := rfl
    rw [hk]
    unfold B_l_heldNoteS_2
    simp only [val_br, val_ob, val_leaf, val_chk, val_sm, mkL_len, lt_dec hi, br_t, idx_at ht, ob_s, m_Note, bne_self, br_f]
    simp (maxSteps := 4000000) (disch := first | omega | (dsimp only; omega)) only [w64, ob_s, bne_self, beq_self_eq_true, Bool.not_true, br_f, nn_dec, chk_t, dec_t, held_ByteS, held_ByteSS, held_Jar, held_Dice, held_IntS, held_CandS, held_SessS, held_Tab, held_CreditS, held_Server, held_OutS]) (fun k => by
    unfold B_l_heldNoteS_2
    simp only [val_br, val_ob, val_leaf, val_chk, val_sm, mkL_len, ge_dec, br_f]) h0 h1
  unfold V_l_heldNoteS T_l_heldNoteS
  simp only [val_br, val_ob, val_leaf, val_chk, val_sm]
  rw [e]
  rfl
theorem lw_1 (d : YBs) (h : wfDs [.sl 5 [.int .u8]] d) : lo_Bs d := by
  simp only [wfDs, wfD] at h
  unfold lo_Bs
  exact ml h.1.1
theorem lw_3 (d : YCand) (h : wfDs [.int .i64, .int .i64, .sl 5 [.int .u8], .int .i64] d) : lo_Cand d := by
  simp only [wfDs, wfD] at h
  unfold lo_Cand
  exact ml h.2.2.1.1
theorem lw_2 (d : YSess) (h : wfDs [.int .i64, .sl 5 [.int .u8], .sl 5 [.int .u8], .int .i64, .sl 5 [.int .u8], .int .i64, .sl 5 [.int .u8], .int .i64, .int .i64, .sl 3 [.int .i64], .int .i64, .sl 5 [.int .u8], .int .i64, .int .i64, .sl 3 [.int .i64], .bool, .int .i64, .sl 5 [.int .u8], .int .i64, .int .i64, .sl 272 [.int .i64, .int .i64, .sl 5 [.int .u8], .int .i64], .int .i64, .int .i64, .bool] d) : lo_Sess d := by
  simp only [wfDs, wfD] at h
  unfold lo_Sess
  exact ⟨ml h.2.1.1, ml h.2.2.1.1, ml h.2.2.2.2.1.1, ml h.2.2.2.2.2.2.1.1, ml h.2.2.2.2.2.2.2.2.2.1.1, ml h.2.2.2.2.2.2.2.2.2.2.2.1.1, ml h.2.2.2.2.2.2.2.2.2.2.2.2.2.2.1.1, ml h.2.2.2.2.2.2.2.2.2.2.2.2.2.2.2.2.2.1.1, ml h.2.2.2.2.2.2.2.2.2.2.2.2.2.2.2.2.2.2.2.2.1.1, fun i x hx => lw_3 x (h.2.2.2.2.2.2.2.2.2.2.2.2.2.2.2.2.2.2.2.2.1.2 i x hx)⟩
theorem lw_0 (d : YServer) (h : wfDs [.sl 23 [.sl 5 [.int .u8]], .sl 5 [.int .u8], .sl 5 [.int .u8], .int .i64, .int .i64, .sl 94 [.int .i64, .sl 5 [.int .u8], .sl 5 [.int .u8], .int .i64, .sl 5 [.int .u8], .int .i64, .sl 5 [.int .u8], .int .i64, .int .i64, .sl 3 [.int .i64], .int .i64, .sl 5 [.int .u8], .int .i64, .int .i64, .sl 3 [.int .i64], .bool, .int .i64, .sl 5 [.int .u8], .int .i64, .int .i64, .sl 272 [.int .i64, .int .i64, .sl 5 [.int .u8], .int .i64], .int .i64, .int .i64, .bool], .sl 221 [.int .i64, .int .i64, .int .i64, .int .i64]] d) : lo_Server d := by
  simp only [wfDs, wfD] at h
  unfold lo_Server
  exact ⟨ml h.1.1, fun i x hx => lw_1 x (h.1.2 i x hx), ml h.2.1.1, ml h.2.2.1.1, ml h.2.2.2.2.2.1.1, fun i x hx => lw_2 x (h.2.2.2.2.2.1.2 i x hx), ml h.2.2.2.2.2.2.1.1⟩
end
end Go.Proofs.YtdlcjpjflckdlaaGreat

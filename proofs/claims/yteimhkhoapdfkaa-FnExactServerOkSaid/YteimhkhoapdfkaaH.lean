/-
  What the helpers of the laws answer, for all arguments.
-/
import Derived.Test.YteimhkhoapdfkaaW
namespace Go.Proofs.Yteimhkhoapdfkaa
open Go.RowKit
set_option linter.unusedVariables false
set_option linter.unusedSimpArgs false
set_option maxHeartbeats 4000000
noncomputable section
theorem idx_at {α : Type} {l : List α} {i : Nat} {x : α} (h : l[i]? = some x) : idx l (i : Int) = some x := (idx_n l i).trans h
theorem idx_set {α : Type} {l : List α} {i : Nat} {x : α} (h : i < l.length) : idx (l.set i x) (i : Int) = some x := by rw [idx_n, List.getElem?_set_self h]
theorem lt_dec {i n : Nat} (h : i < n) : decide ((i : Int) < (n : Int)) = true := by simpa using h
theorem ge_dec (n : Nat) : decide ((n : Int) < (n : Int)) = false := by simp
theorem ne_self (a : Int) : (a != a) = false := by simp
theorem bne_self {α : Type} [BEq α] [LawfulBEq α] (a : α) : (a != a) = false := by simp
theorem nn_dec {k : Int} (h : 0 ≤ k) : decide (k < 0) = false := by simpa using h
theorem dec_t {p : Prop} [Decidable p] (h : p) : decide p = true := by simpa using h
theorem dec_f {p : Prop} [Decidable p] (h : ¬ p) : decide p = false := by simpa using h
theorem sumN_one {E : Type} {f : E → Nat} (hf : ∀ x, f x = 1) : ∀ l : List E, sumN f l = l.length
  | [] => rfl
  | x :: r => by simp only [sumN, hf, sumN_one hf r, List.length_cons]; omega
theorem len_le_sumN {E : Type} {w : E → Nat} (h : ∀ x, 1 ≤ w x) : ∀ l : List E, l.length ≤ sumN w l
  | [] => by simp [sumN]
  | x :: r => by simp only [sumN, List.length_cons]; have := h x; have := len_le_sumN h r; omega
theorem br_ff {ρ : Type} {b : Bool} {x y : Option ρ} (h : b = false) : br b x y = y := by subst h; rfl
theorem br_tt {ρ : Type} {b : Bool} {x y : Option ρ} (h : b = true) : br b x y = x := by subst h; rfl
theorem chk_tt {ρ : Type} {b : Bool} {x : Option ρ} (h : b = true) : chk b x = x := by subst h; rfl
theorem ml {n : Nat} (h : n ≤ maxLen) : n ≤ 9223372036854775807 := by unfold maxLen at h; omega
def w_B (d : YB) : Nat := 1
def m_B (d : YB) (k : Int) : YB := (IntKind.u8.wrap k, ())
def w_I (d : YI) : Nat := 1
def m_I (d : YI) (k : Int) : YI := (k, ())
abbrev YJar : Type := YBs
def need_Win (d : YWin) : Nat := d.2.1.length
def lo_Win (d : YWin) : Prop := d.2.1.length ≤ 9223372036854775807
def w_Win (d : YWin) : Nat := 1 + sumN w_I d.2.1
def m_Win (d : YWin) (k : Int) : YWin := (k, mkL m_I w_I d.2.1 (k + 1), ())
def wt_Win (d : YWin) : Nat := sumN w_I d.2.1
theorem w_le_Win (d : YWin) : w_Win d ≤ 32 * need_Win d + 32 := by
  have h1 := sumN_le1 (f := w_I) (fun _ => by simp [w_I]) d.2.1
  simp only [w_Win, need_Win]; omega
theorem wt_le_Win (d : YWin) : wt_Win d ≤ 32 * need_Win d + 32 := by
  have h1 := sumN_le1 (f := w_I) (fun _ => by simp [w_I]) d.2.1
  simp only [wt_Win, need_Win]; omega
def need_Ep (d : YEp) : Nat := d.2.1.length + d.2.2.2.2.1.length
def lo_Ep (d : YEp) : Prop := d.2.1.length ≤ 9223372036854775807 ∧ d.2.2.2.2.1.length ≤ 9223372036854775807
def w_Ep (d : YEp) : Nat := 1 + sumN w_B d.2.1 + 1 + 1 + sumN w_I d.2.2.2.2.1
def m_Ep (d : YEp) (k : Int) : YEp := (k, mkL m_B w_B d.2.1 (k + 1), k + 1 + (sumN w_B d.2.1 : Nat), k + 1 + (sumN w_B d.2.1 : Nat) + 1, mkL m_I w_I d.2.2.2.2.1 (k + 1 + (sumN w_B d.2.1 : Nat) + 1 + 1), ())
def wt_Ep (d : YEp) : Nat := sumN w_B d.2.1 + sumN w_I d.2.2.2.2.1
theorem w_le_Ep (d : YEp) : w_Ep d ≤ 32 * need_Ep d + 32 := by
  have h1 := sumN_le1 (f := w_B) (fun _ => by simp [w_B]) d.2.1
  have h4 := sumN_le1 (f := w_I) (fun _ => by simp [w_I]) d.2.2.2.2.1
  simp only [w_Ep, need_Ep]; omega
theorem wt_le_Ep (d : YEp) : wt_Ep d ≤ 32 * need_Ep d + 32 := by
  have h1 := sumN_le1 (f := w_B) (fun _ => by simp [w_B]) d.2.1
  have h4 := sumN_le1 (f := w_I) (fun _ => by simp [w_I]) d.2.2.2.2.1
  simp only [wt_Ep, need_Ep]; omega
def need_Chan (d : YChan) : Nat := d.2.1.length + d.2.2.2.1.length + d.2.2.2.2.2.2.1.length + d.2.2.2.2.2.2.2.2.1.length + d.2.2.2.2.2.2.2.2.2.2.2.1.length + d.2.2.2.2.2.2.2.2.2.2.2.2.2.2.1.length
def lo_Chan (d : YChan) : Prop := d.2.1.length ≤ 9223372036854775807 ∧ d.2.2.2.1.length ≤ 9223372036854775807 ∧ d.2.2.2.2.2.2.1.length ≤ 9223372036854775807 ∧ d.2.2.2.2.2.2.2.2.1.length ≤ 9223372036854775807 ∧ d.2.2.2.2.2.2.2.2.2.2.2.1.length ≤ 9223372036854775807 ∧ d.2.2.2.2.2.2.2.2.2.2.2.2.2.2.1.length ≤ 9223372036854775807
def w_Chan (d : YChan) : Nat := 1 + sumN w_B d.2.1 + 1 + sumN w_B d.2.2.2.1 + 1 + 1 + sumN w_I d.2.2.2.2.2.2.1 + 1 + sumN w_B d.2.2.2.2.2.2.2.2.1 + 1 + 1 + sumN w_I d.2.2.2.2.2.2.2.2.2.2.2.1 + 1 + 1 + sumN w_B d.2.2.2.2.2.2.2.2.2.2.2.2.2.2.1
def m_Chan (d : YChan) (k : Int) : YChan := (k, mkL m_B w_B d.2.1 (k + 1), k + 1 + (sumN w_B d.2.1 : Nat), mkL m_B w_B d.2.2.2.1 (k + 1 + (sumN w_B d.2.1 : Nat) + 1), k + 1 + (sumN w_B d.2.1 : Nat) + 1 + (sumN w_B d.2.2.2.1 : Nat), k + 1 + (sumN w_B d.2.1 : Nat) + 1 + (sumN w_B d.2.2.2.1 : Nat) + 1, mkL m_I w_I d.2.2.2.2.2.2.1 (k + 1 + (sumN w_B d.2.1 : Nat) + 1 + (sumN w_B d.2.2.2.1 : Nat) + 1 + 1), k + 1 + (sumN w_B d.2.1 : Nat) + 1 + (sumN w_B d.2.2.2.1 : Nat) + 1 + 1 + (sumN w_I d.2.2.2.2.2.2.1 : Nat), mkL m_B w_B d.2.2.2.2.2.2.2.2.1 (k + 1 + (sumN w_B d.2.1 : Nat) + 1 + (sumN w_B d.2.2.2.1 : Nat) + 1 + 1 + (sumN w_I d.2.2.2.2.2.2.1 : Nat) + 1), k + 1 + (sumN w_B d.2.1 : Nat) + 1 + (sumN w_B d.2.2.2.1 : Nat) + 1 + 1 + (sumN w_I d.2.2.2.2.2.2.1 : Nat) + 1 + (sumN w_B d.2.2.2.2.2.2.2.2.1 : Nat), k + 1 + (sumN w_B d.2.1 : Nat) + 1 + (sumN w_B d.2.2.2.1 : Nat) + 1 + 1 + (sumN w_I d.2.2.2.2.2.2.1 : Nat) + 1 + (sumN w_B d.2.2.2.2.2.2.2.2.1 : Nat) + 1, mkL m_I w_I d.2.2.2.2.2.2.2.2.2.2.2.1 (k + 1 + (sumN w_B d.2.1 : Nat) + 1 + (sumN w_B d.2.2.2.1 : Nat) + 1 + 1 + (sumN w_I d.2.2.2.2.2.2.1 : Nat) + 1 + (sumN w_B d.2.2.2.2.2.2.2.2.1 : Nat) + 1 + 1), ((k + 1 + (sumN w_B d.2.1 : Nat) + 1 + (sumN w_B d.2.2.2.1 : Nat) + 1 + 1 + (sumN w_I d.2.2.2.2.2.2.1 : Nat) + 1 + (sumN w_B d.2.2.2.2.2.2.2.2.1 : Nat) + 1 + 1 + (sumN w_I d.2.2.2.2.2.2.2.2.2.2.2.1 : Nat)) % (3 : Int)) == (0 : Int), k + 1 + (sumN w_B d.2.1 : Nat) + 1 + (sumN w_B d.2.2.2.1 : Nat) + 1 + 1 + (sumN w_I d.2.2.2.2.2.2.1 : Nat) + 1 + (sumN w_B d.2.2.2.2.2.2.2.2.1 : Nat) + 1 + 1 + (sumN w_I d.2.2.2.2.2.2.2.2.2.2.2.1 : Nat) + 1, mkL m_B w_B d.2.2.2.2.2.2.2.2.2.2.2.2.2.2.1 (k + 1 + (sumN w_B d.2.1 : Nat) + 1 + (sumN w_B d.2.2.2.1 : Nat) + 1 + 1 + (sumN w_I d.2.2.2.2.2.2.1 : Nat) + 1 + (sumN w_B d.2.2.2.2.2.2.2.2.1 : Nat) + 1 + 1 + (sumN w_I d.2.2.2.2.2.2.2.2.2.2.2.1 : Nat) + 1 + 1), ())
def wt_Chan (d : YChan) : Nat := sumN w_B d.2.1 + sumN w_B d.2.2.2.1 + sumN w_I d.2.2.2.2.2.2.1 + sumN w_B d.2.2.2.2.2.2.2.2.1 + sumN w_I d.2.2.2.2.2.2.2.2.2.2.2.1 + sumN w_B d.2.2.2.2.2.2.2.2.2.2.2.2.2.2.1
theorem w_le_Chan (d : YChan) : w_Chan d ≤ 32 * need_Chan d + 32 := by
  have h1 := sumN_le1 (f := w_B) (fun _ => by simp [w_B]) d.2.1
  have h3 := sumN_le1 (f := w_B) (fun _ => by simp [w_B]) d.2.2.2.1
  have h6 := sumN_le1 (f := w_I) (fun _ => by simp [w_I]) d.2.2.2.2.2.2.1
  have h8 := sumN_le1 (f := w_B) (fun _ => by simp [w_B]) d.2.2.2.2.2.2.2.2.1
  have h11 := sumN_le1 (f := w_I) (fun _ => by simp [w_I]) d.2.2.2.2.2.2.2.2.2.2.2.1
  have h14 := sumN_le1 (f := w_B) (fun _ => by simp [w_B]) d.2.2.2.2.2.2.2.2.2.2.2.2.2.2.1
  simp only [w_Chan, need_Chan]; omega
theorem wt_le_Chan (d : YChan) : wt_Chan d ≤ 32 * need_Chan d + 32 := by
  have h1 := sumN_le1 (f := w_B) (fun _ => by simp [w_B]) d.2.1
  have h3 := sumN_le1 (f := w_B) (fun _ => by simp [w_B]) d.2.2.2.1
  have h6 := sumN_le1 (f := w_I) (fun _ => by simp [w_I]) d.2.2.2.2.2.2.1
  have h8 := sumN_le1 (f := w_B) (fun _ => by simp [w_B]) d.2.2.2.2.2.2.2.2.1
  have h11 := sumN_le1 (f := w_I) (fun _ => by simp [w_I]) d.2.2.2.2.2.2.2.2.2.2.2.1
  have h14 := sumN_le1 (f := w_B) (fun _ => by simp [w_B]) d.2.2.2.2.2.2.2.2.2.2.2.2.2.2.1
  simp only [wt_Chan, need_Chan]; omega
def need_Cand (d : YCand) : Nat := d.2.2.1.length
def lo_Cand (d : YCand) : Prop := d.2.2.1.length ≤ 9223372036854775807
def w_Cand (d : YCand) : Nat := 1 + 1 + sumN w_B d.2.2.1 + 1
def m_Cand (d : YCand) (k : Int) : YCand := (k, k + 1, mkL m_B w_B d.2.2.1 (k + 1 + 1), k + 1 + 1 + (sumN w_B d.2.2.1 : Nat), ())
def wt_Cand (d : YCand) : Nat := sumN w_B d.2.2.1
theorem w_le_Cand (d : YCand) : w_Cand d ≤ 32 * need_Cand d + 32 := by
  have h2 := sumN_le1 (f := w_B) (fun _ => by simp [w_B]) d.2.2.1
  simp only [w_Cand, need_Cand]; omega
theorem wt_le_Cand (d : YCand) : wt_Cand d ≤ 32 * need_Cand d + 32 := by
  have h2 := sumN_le1 (f := w_B) (fun _ => by simp [w_B]) d.2.2.1
  simp only [wt_Cand, need_Cand]; omega
def need_Paths (d : YPaths) : Nat := d.2.2.1.length + sumN need_Cand d.2.2.1
def lo_Paths (d : YPaths) : Prop := d.2.2.1.length ≤ 9223372036854775807 ∧ (∀ (i : Nat) x, d.2.2.1[i]? = some x → lo_Cand x)
def w_Paths (d : YPaths) : Nat := 1 + 1 + sumN w_Cand d.2.2.1
def m_Paths (d : YPaths) (k : Int) : YPaths := (k, k + 1, mkL m_Cand w_Cand d.2.2.1 (k + 1 + 1), ())
def wt_Paths (d : YPaths) : Nat := sumN w_Cand d.2.2.1
theorem w_le_Paths (d : YPaths) : w_Paths d ≤ 32 * need_Paths d + 32 := by
  have h2 := sumN_le (f := w_Cand) (g := need_Cand) w_le_Cand d.2.2.1
  simp only [w_Paths, need_Paths]; omega
theorem wt_le_Paths (d : YPaths) : wt_Paths d ≤ 32 * need_Paths d + 32 := by
  have h2 := sumN_le (f := w_Cand) (g := need_Cand) w_le_Cand d.2.2.1
  simp only [wt_Paths, need_Paths]; omega
def need_Sess (d : YSess) : Nat := d.2.1.length + d.2.2.1.length + d.2.2.2.2.1.length + d.2.2.2.2.2.2.1.length + d.2.2.2.2.2.2.2.2.2.1.length + d.2.2.2.2.2.2.2.2.2.2.2.1.length + d.2.2.2.2.2.2.2.2.2.2.2.2.2.2.1.length + d.2.2.2.2.2.2.2.2.2.2.2.2.2.2.2.2.2.1.length + d.2.2.2.2.2.2.2.2.2.2.2.2.2.2.2.2.2.2.2.2.1.length + sumN need_Cand d.2.2.2.2.2.2.2.2.2.2.2.2.2.2.2.2.2.2.2.2.1
def lo_Sess (d : YSess) : Prop := d.2.1.length ≤ 9223372036854775807 ∧ d.2.2.1.length ≤ 9223372036854775807 ∧ d.2.2.2.2.1.length ≤ 9223372036854775807 ∧ d.2.2.2.2.2.2.1.length ≤ 9223372036854775807 ∧ d.2.2.2.2.2.2.2.2.2.1.length ≤ 9223372036854775807 ∧ d.2.2.2.2.2.2.2.2.2.2.2.1.length ≤ 9223372036854775807 ∧ d.2.2.2.2.2.2.2.2.2.2.2.2.2.2.1.length ≤ 9223372036854775807 ∧ d.2.2.2.2.2.2.2.2.2.2.2.2.2.2.2.2.2.1.length ≤ 9223372036854775807 ∧ d.2.2.2.2.2.2.2.2.2.2.2.2.2.2.2.2.2.2.2.2.1.length ≤ 9223372036854775807 ∧ (∀ (i : Nat) x, d.2.2.2.2.2.2.2.2.2.2.2.2.2.2.2.2.2.2.2.2.1[i]? = some x → lo_Cand x)
def w_Sess (d : YSess) : Nat := 1 + sumN w_B d.2.1 + sumN w_B d.2.2.1 + 1 + sumN w_B d.2.2.2.2.1 + 1 + sumN w_B d.2.2.2.2.2.2.1 + 1 + 1 + sumN w_I d.2.2.2.2.2.2.2.2.2.1 + 1 + sumN w_B d.2.2.2.2.2.2.2.2.2.2.2.1 + 1 + 1 + sumN w_I d.2.2.2.2.2.2.2.2.2.2.2.2.2.2.1 + 1 + 1 + sumN w_B d.2.2.2.2.2.2.2.2.2.2.2.2.2.2.2.2.2.1 + 1 + 1 + sumN w_Cand d.2.2.2.2.2.2.2.2.2.2.2.2.2.2.2.2.2.2.2.2.1 + 1 + 1 + 1
def m_Sess (d : YSess) (k : Int) : YSess := (k, mkL m_B w_B d.2.1 (k + 1), mkL m_B w_B d.2.2.1 (k + 1 + (sumN w_B d.2.1 : Nat)), k + 1 + (sumN w_B d.2.1 : Nat) + (sumN w_B d.2.2.1 : Nat), mkL m_B w_B d.2.2.2.2.1 (k + 1 + (sumN w_B d.2.1 : Nat) + (sumN w_B d.2.2.1 : Nat) + 1), k + 1 + (sumN w_B d.2.1 : Nat) + (sumN w_B d.2.2.1 : Nat) + 1 + (sumN w_B d.2.2.2.2.1 : Nat), mkL m_B w_B d.2.2.2.2.2.2.1 (k + 1 + (sumN w_B d.2.1 : Nat) + (sumN w_B d.2.2.1 : Nat) + 1 + (sumN w_B d.2.2.2.2.1 : Nat) + 1), k + 1 + (sumN w_B d.2.1 : Nat) + (sumN w_B d.2.2.1 : Nat) + 1 + (sumN w_B d.2.2.2.2.1 : Nat) + 1 + (sumN w_B d.2.2.2.2.2.2.1 : Nat), k + 1 + (sumN w_B d.2.1 : Nat) + (sumN w_B d.2.2.1 : Nat) + 1 + (sumN w_B d.2.2.2.2.1 : Nat) + 1 + (sumN w_B d.2.2.2.2.2.2.1 : Nat) + 1, mkL m_I w_I d.2.2.2.2.2.2.2.2.2.1 (k + 1 + (sumN w_B d.2.1 : Nat) + (sumN w_B d.2.2.1 : Nat) + 1 + (sumN w_B d.2.2.2.2.1 : Nat) + 1 + (sumN w_B d.2.2.2.2.2.2.1 : Nat) + 1 + 1), k + 1 + (sumN w_B d.2.1 : Nat) + (sumN w_B d.2.2.1 : Nat) + 1 + (sumN w_B d.2.2.2.2.1 : Nat) + 1 + (sumN w_B d.2.2.2.2.2.2.1 : Nat) + 1 + 1 + (sumN w_I d.2.2.2.2.2.2.2.2.2.1 : Nat), mkL m_B w_B d.2.2.2.2.2.2.2.2.2.2.2.1 (k + 1 + (sumN w_B d.2.1 : Nat) + (sumN w_B d.2.2.1 : Nat) + 1 + (sumN w_B d.2.2.2.2.1 : Nat) + 1 + (sumN w_B d.2.2.2.2.2.2.1 : Nat) + 1 + 1 + (sumN w_I d.2.2.2.2.2.2.2.2.2.1 : Nat) + 1), k + 1 + (sumN w_B d.2.1 : Nat) + (sumN w_B d.2.2.1 : Nat) + 1 + (sumN w_B d.2.2.2.2.1 : Nat) + 1 + (sumN w_B d.2.2.2.2.2.2.1 : Nat) + 1 + 1 + (sumN w_I d.2.2.2.2.2.2.2.2.2.1 : Nat) + 1 + (sumN w_B d.2.2.2.2.2.2.2.2.2.2.2.1 : Nat), k + 1 + (sumN w_B d.2.1 : Nat) + (sumN w_B d.2.2.1 : Nat) + 1 + (sumN w_B d.2.2.2.2.1 : Nat) + 1 + (sumN w_B d.2.2.2.2.2.2.1 : Nat) + 1 + 1 + (sumN w_I d.2.2.2.2.2.2.2.2.2.1 : Nat) + 1 + (sumN w_B d.2.2.2.2.2.2.2.2.2.2.2.1 : Nat) + 1, mkL m_I w_I d.2.2.2.2.2.2.2.2.2.2.2.2.2.2.1 (k + 1 + (sumN w_B d.2.1 : Nat) + (sumN w_B d.2.2.1 : Nat) + 1 + (sumN w_B d.2.2.2.2.1 : Nat) + 1 + (sumN w_B d.2.2.2.2.2.2.1 : Nat) + 1 + 1 + (sumN w_I d.2.2.2.2.2.2.2.2.2.1 : Nat) + 1 + (sumN w_B d.2.2.2.2.2.2.2.2.2.2.2.1 : Nat) + 1 + 1), ((k + 1 + (sumN w_B d.2.1 : Nat) + (sumN w_B d.2.2.1 : Nat) + 1 + (sumN w_B d.2.2.2.2.1 : Nat) + 1 + (sumN w_B d.2.2.2.2.2.2.1 : Nat) + 1 + 1 + (sumN w_I d.2.2.2.2.2.2.2.2.2.1 : Nat) + 1 + (sumN w_B d.2.2.2.2.2.2.2.2.2.2.2.1 : Nat) + 1 + 1 + (sumN w_I d.2.2.2.2.2.2.2.2.2.2.2.2.2.2.1 : Nat)) % (3 : Int)) == (0 : Int), k + 1 + (sumN w_B d.2.1 : Nat) + (sumN w_B d.2.2.1 : Nat) + 1 + (sumN w_B d.2.2.2.2.1 : Nat) + 1 + (sumN w_B d.2.2.2.2.2.2.1 : Nat) + 1 + 1 + (sumN w_I d.2.2.2.2.2.2.2.2.2.1 : Nat) + 1 + (sumN w_B d.2.2.2.2.2.2.2.2.2.2.2.1 : Nat) + 1 + 1 + (sumN w_I d.2.2.2.2.2.2.2.2.2.2.2.2.2.2.1 : Nat) + 1, mkL m_B w_B d.2.2.2.2.2.2.2.2.2.2.2.2.2.2.2.2.2.1 (k + 1 + (sumN w_B d.2.1 : Nat) + (sumN w_B d.2.2.1 : Nat) + 1 + (sumN w_B d.2.2.2.2.1 : Nat) + 1 + (sumN w_B d.2.2.2.2.2.2.1 : Nat) + 1 + 1 + (sumN w_I d.2.2.2.2.2.2.2.2.2.1 : Nat) + 1 + (sumN w_B d.2.2.2.2.2.2.2.2.2.2.2.1 : Nat) + 1 + 1 + (sumN w_I d.2.2.2.2.2.2.2.2.2.2.2.2.2.2.1 : Nat) + 1 + 1), k + 1 + (sumN w_B d.2.1 : Nat) + (sumN w_B d.2.2.1 : Nat) + 1 + (sumN w_B d.2.2.2.2.1 : Nat) + 1 + (sumN w_B d.2.2.2.2.2.2.1 : Nat) + 1 + 1 + (sumN w_I d.2.2.2.2.2.2.2.2.2.1 : Nat) + 1 + (sumN w_B d.2.2.2.2.2.2.2.2.2.2.2.1 : Nat) + 1 + 1 + (sumN w_I d.2.2.2.2.2.2.2.2.2.2.2.2.2.2.1 : Nat) + 1 + 1 + (sumN w_B d.2.2.2.2.2.2.2.2.2.2.2.2.2.2.2.2.2.1 : Nat), k + 1 + (sumN w_B d.2.1 : Nat) + (sumN w_B d.2.2.1 : Nat) + 1 + (sumN w_B d.2.2.2.2.1 : Nat) + 1 + (sumN w_B d.2.2.2.2.2.2.1 : Nat) + 1 + 1 + (sumN w_I d.2.2.2.2.2.2.2.2.2.1 : Nat) + 1 + (sumN w_B d.2.2.2.2.2.2.2.2.2.2.2.1 : Nat) + 1 + 1 + (sumN w_I d.2.2.2.2.2.2.2.2.2.2.2.2.2.2.1 : Nat) + 1 + 1 + (sumN w_B d.2.2.2.2.2.2.2.2.2.2.2.2.2.2.2.2.2.1 : Nat) + 1, mkL m_Cand w_Cand d.2.2.2.2.2.2.2.2.2.2.2.2.2.2.2.2.2.2.2.2.1 (k + 1 + (sumN w_B d.2.1 : Nat) + (sumN w_B d.2.2.1 : Nat) + 1 + (sumN w_B d.2.2.2.2.1 : Nat) + 1 + (sumN w_B d.2.2.2.2.2.2.1 : Nat) + 1 + 1 + (sumN w_I d.2.2.2.2.2.2.2.2.2.1 : Nat) + 1 + (sumN w_B d.2.2.2.2.2.2.2.2.2.2.2.1 : Nat) + 1 + 1 + (sumN w_I d.2.2.2.2.2.2.2.2.2.2.2.2.2.2.1 : Nat) + 1 + 1 + (sumN w_B d.2.2.2.2.2.2.2.2.2.2.2.2.2.2.2.2.2.1 : Nat) + 1 + 1), k + 1 + (sumN w_B d.2.1 : Nat) + (sumN w_B d.2.2.1 : Nat) + 1 + (sumN w_B d.2.2.2.2.1 : Nat) + 1 + (sumN w_B d.2.2.2.2.2.2.1 : Nat) + 1 + 1 + (sumN w_I d.2.2.2.2.2.2.2.2.2.1 : Nat) + 1 + (sumN w_B d.2.2.2.2.2.2.2.2.2.2.2.1 : Nat) + 1 + 1 + (sumN w_I d.2.2.2.2.2.2.2.2.2.2.2.2.2.2.1 : Nat) + 1 + 1 + (sumN w_B d.2.2.2.2.2.2.2.2.2.2.2.2.2.2.2.2.2.1 : Nat) + 1 + 1 + (sumN w_Cand d.2.2.2.2.2.2.2.2.2.2.2.2.2.2.2.2.2.2.2.2.1 : Nat), k + 1 + (sumN w_B d.2.1 : Nat) + (sumN w_B d.2.2.1 : Nat) + 1 + (sumN w_B d.2.2.2.2.1 : Nat) + 1 + (sumN w_B d.2.2.2.2.2.2.1 : Nat) + 1 + 1 + (sumN w_I d.2.2.2.2.2.2.2.2.2.1 : Nat) + 1 + (sumN w_B d.2.2.2.2.2.2.2.2.2.2.2.1 : Nat) + 1 + 1 + (sumN w_I d.2.2.2.2.2.2.2.2.2.2.2.2.2.2.1 : Nat) + 1 + 1 + (sumN w_B d.2.2.2.2.2.2.2.2.2.2.2.2.2.2.2.2.2.1 : Nat) + 1 + 1 + (sumN w_Cand d.2.2.2.2.2.2.2.2.2.2.2.2.2.2.2.2.2.2.2.2.1 : Nat) + 1, ((k + 1 + (sumN w_B d.2.1 : Nat) + (sumN w_B d.2.2.1 : Nat) + 1 + (sumN w_B d.2.2.2.2.1 : Nat) + 1 + (sumN w_B d.2.2.2.2.2.2.1 : Nat) + 1 + 1 + (sumN w_I d.2.2.2.2.2.2.2.2.2.1 : Nat) + 1 + (sumN w_B d.2.2.2.2.2.2.2.2.2.2.2.1 : Nat) + 1 + 1 + (sumN w_I d.2.2.2.2.2.2.2.2.2.2.2.2.2.2.1 : Nat) + 1 + 1 + (sumN w_B d.2.2.2.2.2.2.2.2.2.2.2.2.2.2.2.2.2.1 : Nat) + 1 + 1 + (sumN w_Cand d.2.2.2.2.2.2.2.2.2.2.2.2.2.2.2.2.2.2.2.2.1 : Nat) + 1 + 1) % (3 : Int)) == (0 : Int), ())
def wt_Sess (d : YSess) : Nat := sumN w_B d.2.1 + sumN w_B d.2.2.1 + sumN w_B d.2.2.2.2.1 + sumN w_B d.2.2.2.2.2.2.1 + sumN w_I d.2.2.2.2.2.2.2.2.2.1 + sumN w_B d.2.2.2.2.2.2.2.2.2.2.2.1 + sumN w_I d.2.2.2.2.2.2.2.2.2.2.2.2.2.2.1 + sumN w_B d.2.2.2.2.2.2.2.2.2.2.2.2.2.2.2.2.2.1 + sumN w_Cand d.2.2.2.2.2.2.2.2.2.2.2.2.2.2.2.2.2.2.2.2.1
theorem w_le_Sess (d : YSess) : w_Sess d ≤ 32 * need_Sess d + 32 := by
  have h1 := sumN_le1 (f := w_B) (fun _ => by simp [w_B]) d.2.1
  have h2 := sumN_le1 (f := w_B) (fun _ => by simp [w_B]) d.2.2.1
  have h4 := sumN_le1 (f := w_B) (fun _ => by simp [w_B]) d.2.2.2.2.1
  have h6 := sumN_le1 (f := w_B) (fun _ => by simp [w_B]) d.2.2.2.2.2.2.1
  have h9 := sumN_le1 (f := w_I) (fun _ => by simp [w_I]) d.2.2.2.2.2.2.2.2.2.1
  have h11 := sumN_le1 (f := w_B) (fun _ => by simp [w_B]) d.2.2.2.2.2.2.2.2.2.2.2.1
  have h14 := sumN_le1 (f := w_I) (fun _ => by simp [w_I]) d.2.2.2.2.2.2.2.2.2.2.2.2.2.2.1
  have h17 := sumN_le1 (f := w_B) (fun _ => by simp [w_B]) d.2.2.2.2.2.2.2.2.2.2.2.2.2.2.2.2.2.1
  have h20 := sumN_le (f := w_Cand) (g := need_Cand) w_le_Cand d.2.2.2.2.2.2.2.2.2.2.2.2.2.2.2.2.2.2.2.2.1
  simp only [w_Sess, need_Sess]; omega
theorem wt_le_Sess (d : YSess) : wt_Sess d ≤ 32 * need_Sess d + 32 := by
  have h1 := sumN_le1 (f := w_B) (fun _ => by simp [w_B]) d.2.1
  have h2 := sumN_le1 (f := w_B) (fun _ => by simp [w_B]) d.2.2.1
  have h4 := sumN_le1 (f := w_B) (fun _ => by simp [w_B]) d.2.2.2.2.1
  have h6 := sumN_le1 (f := w_B) (fun _ => by simp [w_B]) d.2.2.2.2.2.2.1
  have h9 := sumN_le1 (f := w_I) (fun _ => by simp [w_I]) d.2.2.2.2.2.2.2.2.2.1
  have h11 := sumN_le1 (f := w_B) (fun _ => by simp [w_B]) d.2.2.2.2.2.2.2.2.2.2.2.1
  have h14 := sumN_le1 (f := w_I) (fun _ => by simp [w_I]) d.2.2.2.2.2.2.2.2.2.2.2.2.2.2.1
  have h17 := sumN_le1 (f := w_B) (fun _ => by simp [w_B]) d.2.2.2.2.2.2.2.2.2.2.2.2.2.2.2.2.2.1
  have h20 := sumN_le (f := w_Cand) (g := need_Cand) w_le_Cand d.2.2.2.2.2.2.2.2.2.2.2.2.2.2.2.2.2.2.2.2.1
  simp only [wt_Sess, need_Sess]; omega
def need_Addr (d : YAddr) : Nat := 0
def lo_Addr (d : YAddr) : Prop := True
def w_Addr (d : YAddr) : Nat := 1 + 1
def m_Addr (d : YAddr) (k : Int) : YAddr := (k, k + 1, ())
def wt_Addr (d : YAddr) : Nat := 0
theorem w_le_Addr (d : YAddr) : w_Addr d ≤ 32 * need_Addr d + 32 := by
  simp only [w_Addr, need_Addr]; omega
theorem wt_le_Addr (d : YAddr) : wt_Addr d ≤ 32 * need_Addr d + 32 := by
  simp only [wt_Addr, need_Addr]; omega
def need_Bs (d : YBs) : Nat := d.1.length
def lo_Bs (d : YBs) : Prop := d.1.length ≤ 9223372036854775807
def w_Bs (d : YBs) : Nat := sumN w_B d.1
def m_Bs (d : YBs) (k : Int) : YBs := (mkL m_B w_B d.1 (k), ())
def wt_Bs (d : YBs) : Nat := sumN w_B d.1
theorem w_le_Bs (d : YBs) : w_Bs d ≤ 32 * need_Bs d + 32 := by
  have h0 := sumN_le1 (f := w_B) (fun _ => by simp [w_B]) d.1
  simp only [w_Bs, need_Bs]; omega
theorem wt_le_Bs (d : YBs) : wt_Bs d ≤ 32 * need_Bs d + 32 := by
  have h0 := sumN_le1 (f := w_B) (fun _ => by simp [w_B]) d.1
  simp only [wt_Bs, need_Bs]; omega
def need_Jar (d : YJar) : Nat := d.1.length
def lo_Jar (d : YJar) : Prop := d.1.length ≤ 9223372036854775807
def w_Jar (d : YJar) : Nat := sumN w_B d.1
def m_Jar (d : YJar) (k : Int) : YJar := (mkL m_B w_B d.1 (k), ())
def wt_Jar (d : YJar) : Nat := sumN w_B d.1
theorem w_le_Jar (d : YJar) : w_Jar d ≤ 32 * need_Jar d + 32 := by
  have h0 := sumN_le1 (f := w_B) (fun _ => by simp [w_B]) d.1
  simp only [w_Jar, need_Jar]; omega
theorem wt_le_Jar (d : YJar) : wt_Jar d ≤ 32 * need_Jar d + 32 := by
  have h0 := sumN_le1 (f := w_B) (fun _ => by simp [w_B]) d.1
  simp only [wt_Jar, need_Jar]; omega
def need_Dice (d : YDice) : Nat := d.1.length
def lo_Dice (d : YDice) : Prop := d.1.length ≤ 9223372036854775807
def w_Dice (d : YDice) : Nat := sumN w_B d.1 + 1
def m_Dice (d : YDice) (k : Int) : YDice := (mkL m_B w_B d.1 (k), k + (sumN w_B d.1 : Nat), ())
def wt_Dice (d : YDice) : Nat := sumN w_B d.1
theorem w_le_Dice (d : YDice) : w_Dice d ≤ 32 * need_Dice d + 32 := by
  have h0 := sumN_le1 (f := w_B) (fun _ => by simp [w_B]) d.1
  simp only [w_Dice, need_Dice]; omega
theorem wt_le_Dice (d : YDice) : wt_Dice d ≤ 32 * need_Dice d + 32 := by
  have h0 := sumN_le1 (f := w_B) (fun _ => by simp [w_B]) d.1
  simp only [wt_Dice, need_Dice]; omega
def need_Tab (d : YTab) : Nat := d.2.1.length + sumN need_Sess d.2.1
def lo_Tab (d : YTab) : Prop := d.2.1.length ≤ 9223372036854775807 ∧ (∀ (i : Nat) x, d.2.1[i]? = some x → lo_Sess x)
def w_Tab (d : YTab) : Nat := 1 + sumN w_Sess d.2.1
def m_Tab (d : YTab) (k : Int) : YTab := (k, mkL m_Sess w_Sess d.2.1 (k + 1), ())
def wt_Tab (d : YTab) : Nat := sumN w_Sess d.2.1
theorem w_le_Tab (d : YTab) : w_Tab d ≤ 32 * need_Tab d + 32 := by
  have h1 := sumN_le (f := w_Sess) (g := need_Sess) w_le_Sess d.2.1
  simp only [w_Tab, need_Tab]; omega
theorem wt_le_Tab (d : YTab) : wt_Tab d ≤ 32 * need_Tab d + 32 := by
  have h1 := sumN_le (f := w_Sess) (g := need_Sess) w_le_Sess d.2.1
  simp only [wt_Tab, need_Tab]; omega
def need_Credit (d : YCredit) : Nat := 0
def lo_Credit (d : YCredit) : Prop := True
def w_Credit (d : YCredit) : Nat := 1 + 1 + 1 + 1
def m_Credit (d : YCredit) (k : Int) : YCredit := (k, k + 1, k + 1 + 1, k + 1 + 1 + 1, ())
def wt_Credit (d : YCredit) : Nat := 0
theorem w_le_Credit (d : YCredit) : w_Credit d ≤ 32 * need_Credit d + 32 := by
  simp only [w_Credit, need_Credit]; omega
theorem wt_le_Credit (d : YCredit) : wt_Credit d ≤ 32 * need_Credit d + 32 := by
  simp only [wt_Credit, need_Credit]; omega
def need_Server (d : YServer) : Nat := d.1.length + sumN need_Bs d.1 + d.2.1.length + d.2.2.1.length + d.2.2.2.2.2.1.length + sumN need_Sess d.2.2.2.2.2.1 + d.2.2.2.2.2.2.1.length
def lo_Server (d : YServer) : Prop := d.1.length ≤ 9223372036854775807 ∧ (∀ (i : Nat) x, d.1[i]? = some x → lo_Bs x) ∧ d.2.1.length ≤ 9223372036854775807 ∧ d.2.2.1.length ≤ 9223372036854775807 ∧ d.2.2.2.2.2.1.length ≤ 9223372036854775807 ∧ (∀ (i : Nat) x, d.2.2.2.2.2.1[i]? = some x → lo_Sess x) ∧ d.2.2.2.2.2.2.1.length ≤ 9223372036854775807
def w_Server (d : YServer) : Nat := sumN w_Bs d.1 + sumN w_B d.2.1 + sumN w_B d.2.2.1 + 1 + 1 + sumN w_Sess d.2.2.2.2.2.1 + sumN w_Credit d.2.2.2.2.2.2.1
def m_Server (d : YServer) (k : Int) : YServer := (mkL m_Bs w_Bs d.1 (k), mkL m_B w_B d.2.1 (k + (sumN w_Bs d.1 : Nat)), mkL m_B w_B d.2.2.1 (k + (sumN w_Bs d.1 : Nat) + (sumN w_B d.2.1 : Nat)), k + (sumN w_Bs d.1 : Nat) + (sumN w_B d.2.1 : Nat) + (sumN w_B d.2.2.1 : Nat), k + (sumN w_Bs d.1 : Nat) + (sumN w_B d.2.1 : Nat) + (sumN w_B d.2.2.1 : Nat) + 1, mkL m_Sess w_Sess d.2.2.2.2.2.1 (k + (sumN w_Bs d.1 : Nat) + (sumN w_B d.2.1 : Nat) + (sumN w_B d.2.2.1 : Nat) + 1 + 1), mkL m_Credit w_Credit d.2.2.2.2.2.2.1 (k + (sumN w_Bs d.1 : Nat) + (sumN w_B d.2.1 : Nat) + (sumN w_B d.2.2.1 : Nat) + 1 + 1 + (sumN w_Sess d.2.2.2.2.2.1 : Nat)), ())
def wt_Server (d : YServer) : Nat := sumN w_Bs d.1 + sumN w_B d.2.1 + sumN w_B d.2.2.1 + sumN w_Sess d.2.2.2.2.2.1 + sumN w_Credit d.2.2.2.2.2.2.1
theorem w_le_Server (d : YServer) : w_Server d ≤ 32 * need_Server d + 32 := by
  have h0 := sumN_le (f := w_Bs) (g := need_Bs) w_le_Bs d.1
  have h1 := sumN_le1 (f := w_B) (fun _ => by simp [w_B]) d.2.1
  have h2 := sumN_le1 (f := w_B) (fun _ => by simp [w_B]) d.2.2.1
  have h5 := sumN_le (f := w_Sess) (g := need_Sess) w_le_Sess d.2.2.2.2.2.1
  have h6 := sumN_le1 (f := w_Credit) (fun _ => by simp [w_Credit]) d.2.2.2.2.2.2.1
  simp only [w_Server, need_Server]; omega
theorem wt_le_Server (d : YServer) : wt_Server d ≤ 32 * need_Server d + 32 := by
  have h0 := sumN_le (f := w_Bs) (g := need_Bs) w_le_Bs d.1
  have h1 := sumN_le1 (f := w_B) (fun _ => by simp [w_B]) d.2.1
  have h2 := sumN_le1 (f := w_B) (fun _ => by simp [w_B]) d.2.2.1
  have h5 := sumN_le (f := w_Sess) (g := need_Sess) w_le_Sess d.2.2.2.2.2.1
  have h6 := sumN_le1 (f := w_Credit) (fun _ => by simp [w_Credit]) d.2.2.2.2.2.2.1
  simp only [wt_Server, need_Server]; omega
def need_Frame (d : YFrame) : Nat := d.2.2.1.length + d.2.2.2.1.length + d.2.2.2.2.2.1.length + d.2.2.2.2.2.2.1.length + d.2.2.2.2.2.2.2.2.2.1.length + d.2.2.2.2.2.2.2.2.2.2.1.length
def lo_Frame (d : YFrame) : Prop := d.2.2.1.length ≤ 9223372036854775807 ∧ d.2.2.2.1.length ≤ 9223372036854775807 ∧ d.2.2.2.2.2.1.length ≤ 9223372036854775807 ∧ d.2.2.2.2.2.2.1.length ≤ 9223372036854775807 ∧ d.2.2.2.2.2.2.2.2.2.1.length ≤ 9223372036854775807 ∧ d.2.2.2.2.2.2.2.2.2.2.1.length ≤ 9223372036854775807
def w_Frame (d : YFrame) : Nat := 1 + 1 + sumN w_B d.2.2.1 + sumN w_B d.2.2.2.1 + 1 + sumN w_B d.2.2.2.2.2.1 + sumN w_B d.2.2.2.2.2.2.1 + 1 + 1 + sumN w_B d.2.2.2.2.2.2.2.2.2.1 + sumN w_B d.2.2.2.2.2.2.2.2.2.2.1
def m_Frame (d : YFrame) (k : Int) : YFrame := (k, k + 1, mkL m_B w_B d.2.2.1 (k + 1 + 1), mkL m_B w_B d.2.2.2.1 (k + 1 + 1 + (sumN w_B d.2.2.1 : Nat)), k + 1 + 1 + (sumN w_B d.2.2.1 : Nat) + (sumN w_B d.2.2.2.1 : Nat), mkL m_B w_B d.2.2.2.2.2.1 (k + 1 + 1 + (sumN w_B d.2.2.1 : Nat) + (sumN w_B d.2.2.2.1 : Nat) + 1), mkL m_B w_B d.2.2.2.2.2.2.1 (k + 1 + 1 + (sumN w_B d.2.2.1 : Nat) + (sumN w_B d.2.2.2.1 : Nat) + 1 + (sumN w_B d.2.2.2.2.2.1 : Nat)), k + 1 + 1 + (sumN w_B d.2.2.1 : Nat) + (sumN w_B d.2.2.2.1 : Nat) + 1 + (sumN w_B d.2.2.2.2.2.1 : Nat) + (sumN w_B d.2.2.2.2.2.2.1 : Nat), k + 1 + 1 + (sumN w_B d.2.2.1 : Nat) + (sumN w_B d.2.2.2.1 : Nat) + 1 + (sumN w_B d.2.2.2.2.2.1 : Nat) + (sumN w_B d.2.2.2.2.2.2.1 : Nat) + 1, mkL m_B w_B d.2.2.2.2.2.2.2.2.2.1 (k + 1 + 1 + (sumN w_B d.2.2.1 : Nat) + (sumN w_B d.2.2.2.1 : Nat) + 1 + (sumN w_B d.2.2.2.2.2.1 : Nat) + (sumN w_B d.2.2.2.2.2.2.1 : Nat) + 1 + 1), mkL m_B w_B d.2.2.2.2.2.2.2.2.2.2.1 (k + 1 + 1 + (sumN w_B d.2.2.1 : Nat) + (sumN w_B d.2.2.2.1 : Nat) + 1 + (sumN w_B d.2.2.2.2.2.1 : Nat) + (sumN w_B d.2.2.2.2.2.2.1 : Nat) + 1 + 1 + (sumN w_B d.2.2.2.2.2.2.2.2.2.1 : Nat)), ())
def wt_Frame (d : YFrame) : Nat := sumN w_B d.2.2.1 + sumN w_B d.2.2.2.1 + sumN w_B d.2.2.2.2.2.1 + sumN w_B d.2.2.2.2.2.2.1 + sumN w_B d.2.2.2.2.2.2.2.2.2.1 + sumN w_B d.2.2.2.2.2.2.2.2.2.2.1
theorem w_le_Frame (d : YFrame) : w_Frame d ≤ 32 * need_Frame d + 32 := by
  have h2 := sumN_le1 (f := w_B) (fun _ => by simp [w_B]) d.2.2.1
  have h3 := sumN_le1 (f := w_B) (fun _ => by simp [w_B]) d.2.2.2.1
  have h5 := sumN_le1 (f := w_B) (fun _ => by simp [w_B]) d.2.2.2.2.2.1
  have h6 := sumN_le1 (f := w_B) (fun _ => by simp [w_B]) d.2.2.2.2.2.2.1
  have h9 := sumN_le1 (f := w_B) (fun _ => by simp [w_B]) d.2.2.2.2.2.2.2.2.2.1
  have h10 := sumN_le1 (f := w_B) (fun _ => by simp [w_B]) d.2.2.2.2.2.2.2.2.2.2.1
  simp only [w_Frame, need_Frame]; omega
theorem wt_le_Frame (d : YFrame) : wt_Frame d ≤ 32 * need_Frame d + 32 := by
  have h2 := sumN_le1 (f := w_B) (fun _ => by simp [w_B]) d.2.2.1
  have h3 := sumN_le1 (f := w_B) (fun _ => by simp [w_B]) d.2.2.2.1
  have h5 := sumN_le1 (f := w_B) (fun _ => by simp [w_B]) d.2.2.2.2.2.1
  have h6 := sumN_le1 (f := w_B) (fun _ => by simp [w_B]) d.2.2.2.2.2.2.1
  have h9 := sumN_le1 (f := w_B) (fun _ => by simp [w_B]) d.2.2.2.2.2.2.2.2.2.1
  have h10 := sumN_le1 (f := w_B) (fun _ => by simp [w_B]) d.2.2.2.2.2.2.2.2.2.2.1
  simp only [wt_Frame, need_Frame]; omega
def need_Client (d : YClient) : Nat := d.2.1.length + d.2.2.2.2.2.1.length + d.2.2.2.2.2.2.2.2.1.length + d.2.2.2.2.2.2.2.2.2.1.length + d.2.2.2.2.2.2.2.2.2.2.2.1.length + d.2.2.2.2.2.2.2.2.2.2.2.2.1.length + d.2.2.2.2.2.2.2.2.2.2.2.2.2.2.2.1.length + d.2.2.2.2.2.2.2.2.2.2.2.2.2.2.2.2.1.length + d.2.2.2.2.2.2.2.2.2.2.2.2.2.2.2.2.2.2.1.length + d.2.2.2.2.2.2.2.2.2.2.2.2.2.2.2.2.2.2.2.2.1.length + d.2.2.2.2.2.2.2.2.2.2.2.2.2.2.2.2.2.2.2.2.2.2.2.1.length + d.2.2.2.2.2.2.2.2.2.2.2.2.2.2.2.2.2.2.2.2.2.2.2.2.2.1.length + d.2.2.2.2.2.2.2.2.2.2.2.2.2.2.2.2.2.2.2.2.2.2.2.2.2.2.2.2.1.length + d.2.2.2.2.2.2.2.2.2.2.2.2.2.2.2.2.2.2.2.2.2.2.2.2.2.2.2.2.2.2.2.1.length
def lo_Client (d : YClient) : Prop := d.2.1.length ≤ 9223372036854775807 ∧ d.2.2.2.2.2.1.length ≤ 9223372036854775807 ∧ d.2.2.2.2.2.2.2.2.1.length ≤ 9223372036854775807 ∧ d.2.2.2.2.2.2.2.2.2.1.length ≤ 9223372036854775807 ∧ d.2.2.2.2.2.2.2.2.2.2.2.1.length ≤ 9223372036854775807 ∧ d.2.2.2.2.2.2.2.2.2.2.2.2.1.length ≤ 9223372036854775807 ∧ d.2.2.2.2.2.2.2.2.2.2.2.2.2.2.2.1.length ≤ 9223372036854775807 ∧ d.2.2.2.2.2.2.2.2.2.2.2.2.2.2.2.2.1.length ≤ 9223372036854775807 ∧ d.2.2.2.2.2.2.2.2.2.2.2.2.2.2.2.2.2.2.1.length ≤ 9223372036854775807 ∧ d.2.2.2.2.2.2.2.2.2.2.2.2.2.2.2.2.2.2.2.2.1.length ≤ 9223372036854775807 ∧ d.2.2.2.2.2.2.2.2.2.2.2.2.2.2.2.2.2.2.2.2.2.2.2.1.length ≤ 9223372036854775807 ∧ d.2.2.2.2.2.2.2.2.2.2.2.2.2.2.2.2.2.2.2.2.2.2.2.2.2.1.length ≤ 9223372036854775807 ∧ d.2.2.2.2.2.2.2.2.2.2.2.2.2.2.2.2.2.2.2.2.2.2.2.2.2.2.2.2.1.length ≤ 9223372036854775807 ∧ d.2.2.2.2.2.2.2.2.2.2.2.2.2.2.2.2.2.2.2.2.2.2.2.2.2.2.2.2.2.2.2.1.length ≤ 9223372036854775807
def w_Client (d : YClient) : Nat := 1 + sumN w_B d.2.1 + 1 + 1 + 1 + sumN w_B d.2.2.2.2.2.1 + 1 + 1 + sumN w_B d.2.2.2.2.2.2.2.2.1 + sumN w_B d.2.2.2.2.2.2.2.2.2.1 + 1 + sumN w_B d.2.2.2.2.2.2.2.2.2.2.2.1 + sumN w_B d.2.2.2.2.2.2.2.2.2.2.2.2.1 + 1 + 1 + sumN w_B d.2.2.2.2.2.2.2.2.2.2.2.2.2.2.2.1 + sumN w_B d.2.2.2.2.2.2.2.2.2.2.2.2.2.2.2.2.1 + 1 + sumN w_B d.2.2.2.2.2.2.2.2.2.2.2.2.2.2.2.2.2.2.1 + 1 + sumN w_B d.2.2.2.2.2.2.2.2.2.2.2.2.2.2.2.2.2.2.2.2.1 + 1 + 1 + sumN w_I d.2.2.2.2.2.2.2.2.2.2.2.2.2.2.2.2.2.2.2.2.2.2.2.1 + 1 + sumN w_B d.2.2.2.2.2.2.2.2.2.2.2.2.2.2.2.2.2.2.2.2.2.2.2.2.2.1 + 1 + 1 + sumN w_I d.2.2.2.2.2.2.2.2.2.2.2.2.2.2.2.2.2.2.2.2.2.2.2.2.2.2.2.2.1 + 1 + 1 + sumN w_B d.2.2.2.2.2.2.2.2.2.2.2.2.2.2.2.2.2.2.2.2.2.2.2.2.2.2.2.2.2.2.2.1 + 1 + 1 + 1 + 1 + 1 + 1 + 1 + 1 + 1
def m_Client (d : YClient) (k : Int) : YClient := (k, mkL m_B w_B d.2.1 (k + 1), k + 1 + (sumN w_B d.2.1 : Nat), k + 1 + (sumN w_B d.2.1 : Nat) + 1, k + 1 + (sumN w_B d.2.1 : Nat) + 1 + 1, mkL m_B w_B d.2.2.2.2.2.1 (k + 1 + (sumN w_B d.2.1 : Nat) + 1 + 1 + 1), k + 1 + (sumN w_B d.2.1 : Nat) + 1 + 1 + 1 + (sumN w_B d.2.2.2.2.2.1 : Nat), k + 1 + (sumN w_B d.2.1 : Nat) + 1 + 1 + 1 + (sumN w_B d.2.2.2.2.2.1 : Nat) + 1, mkL m_B w_B d.2.2.2.2.2.2.2.2.1 (k + 1 + (sumN w_B d.2.1 : Nat) + 1 + 1 + 1 + (sumN w_B d.2.2.2.2.2.1 : Nat) + 1 + 1), mkL m_B w_B d.2.2.2.2.2.2.2.2.2.1 (k + 1 + (sumN w_B d.2.1 : Nat) + 1 + 1 + 1 + (sumN w_B d.2.2.2.2.2.1 : Nat) + 1 + 1 + (sumN w_B d.2.2.2.2.2.2.2.2.1 : Nat)), k + 1 + (sumN w_B d.2.1 : Nat) + 1 + 1 + 1 + (sumN w_B d.2.2.2.2.2.1 : Nat) + 1 + 1 + (sumN w_B d.2.2.2.2.2.2.2.2.1 : Nat) + (sumN w_B d.2.2.2.2.2.2.2.2.2.1 : Nat), mkL m_B w_B d.2.2.2.2.2.2.2.2.2.2.2.1 (k + 1 + (sumN w_B d.2.1 : Nat) + 1 + 1 + 1 + (sumN w_B d.2.2.2.2.2.1 : Nat) + 1 + 1 + (sumN w_B d.2.2.2.2.2.2.2.2.1 : Nat) + (sumN w_B d.2.2.2.2.2.2.2.2.2.1 : Nat) + 1), mkL m_B w_B d.2.2.2.2.2.2.2.2.2.2.2.2.1 (k + 1 + (sumN w_B d.2.1 : Nat) + 1 + 1 + 1 + (sumN w_B d.2.2.2.2.2.1 : Nat) + 1 + 1 + (sumN w_B d.2.2.2.2.2.2.2.2.1 : Nat) + (sumN w_B d.2.2.2.2.2.2.2.2.2.1 : Nat) + 1 + (sumN w_B d.2.2.2.2.2.2.2.2.2.2.2.1 : Nat)), k + 1 + (sumN w_B d.2.1 : Nat) + 1 + 1 + 1 + (sumN w_B d.2.2.2.2.2.1 : Nat) + 1 + 1 + (sumN w_B d.2.2.2.2.2.2.2.2.1 : Nat) + (sumN w_B d.2.2.2.2.2.2.2.2.2.1 : Nat) + 1 + (sumN w_B d.2.2.2.2.2.2.2.2.2.2.2.1 : Nat) + (sumN w_B d.2.2.2.2.2.2.2.2.2.2.2.2.1 : Nat), k + 1 + (sumN w_B d.2.1 : Nat) + 1 + 1 + 1 + (sumN w_B d.2.2.2.2.2.1 : Nat) + 1 + 1 + (sumN w_B d.2.2.2.2.2.2.2.2.1 : Nat) + (sumN w_B d.2.2.2.2.2.2.2.2.2.1 : Nat) + 1 + (sumN w_B d.2.2.2.2.2.2.2.2.2.2.2.1 : Nat) + (sumN w_B d.2.2.2.2.2.2.2.2.2.2.2.2.1 : Nat) + 1, mkL m_B w_B d.2.2.2.2.2.2.2.2.2.2.2.2.2.2.2.1 (k + 1 + (sumN w_B d.2.1 : Nat) + 1 + 1 + 1 + (sumN w_B d.2.2.2.2.2.1 : Nat) + 1 + 1 + (sumN w_B d.2.2.2.2.2.2.2.2.1 : Nat) + (sumN w_B d.2.2.2.2.2.2.2.2.2.1 : Nat) + 1 + (sumN w_B d.2.2.2.2.2.2.2.2.2.2.2.1 : Nat) + (sumN w_B d.2.2.2.2.2.2.2.2.2.2.2.2.1 : Nat) + 1 + 1), mkL m_B w_B d.2.2.2.2.2.2.2.2.2.2.2.2.2.2.2.2.1 (k + 1 + (sumN w_B d.2.1 : Nat) + 1 + 1 + 1 + (sumN w_B d.2.2.2.2.2.1 : Nat) + 1 + 1 + (sumN w_B d.2.2.2.2.2.2.2.2.1 : Nat) + (sumN w_B d.2.2.2.2.2.2.2.2.2.1 : Nat) + 1 + (sumN w_B d.2.2.2.2.2.2.2.2.2.2.2.1 : Nat) + (sumN w_B d.2.2.2.2.2.2.2.2.2.2.2.2.1 : Nat) + 1 + 1 + (sumN w_B d.2.2.2.2.2.2.2.2.2.2.2.2.2.2.2.1 : Nat)), k + 1 + (sumN w_B d.2.1 : Nat) + 1 + 1 + 1 + (sumN w_B d.2.2.2.2.2.1 : Nat) + 1 + 1 + (sumN w_B d.2.2.2.2.2.2.2.2.1 : Nat) + (sumN w_B d.2.2.2.2.2.2.2.2.2.1 : Nat) + 1 + (sumN w_B d.2.2.2.2.2.2.2.2.2.2.2.1 : Nat) + (sumN w_B d.2.2.2.2.2.2.2.2.2.2.2.2.1 : Nat) + 1 + 1 + (sumN w_B d.2.2.2.2.2.2.2.2.2.2.2.2.2.2.2.1 : Nat) + (sumN w_B d.2.2.2.2.2.2.2.2.2.2.2.2.2.2.2.2.1 : Nat), mkL m_B w_B d.2.2.2.2.2.2.2.2.2.2.2.2.2.2.2.2.2.2.1 (k + 1 + (sumN w_B d.2.1 : Nat) + 1 + 1 + 1 + (sumN w_B d.2.2.2.2.2.1 : Nat) + 1 + 1 + (sumN w_B d.2.2.2.2.2.2.2.2.1 : Nat) + (sumN w_B d.2.2.2.2.2.2.2.2.2.1 : Nat) + 1 + (sumN w_B d.2.2.2.2.2.2.2.2.2.2.2.1 : Nat) + (sumN w_B d.2.2.2.2.2.2.2.2.2.2.2.2.1 : Nat) + 1 + 1 + (sumN w_B d.2.2.2.2.2.2.2.2.2.2.2.2.2.2.2.1 : Nat) + (sumN w_B d.2.2.2.2.2.2.2.2.2.2.2.2.2.2.2.2.1 : Nat) + 1), k + 1 + (sumN w_B d.2.1 : Nat) + 1 + 1 + 1 + (sumN w_B d.2.2.2.2.2.1 : Nat) + 1 + 1 + (sumN w_B d.2.2.2.2.2.2.2.2.1 : Nat) + (sumN w_B d.2.2.2.2.2.2.2.2.2.1 : Nat) + 1 + (sumN w_B d.2.2.2.2.2.2.2.2.2.2.2.1 : Nat) + (sumN w_B d.2.2.2.2.2.2.2.2.2.2.2.2.1 : Nat) + 1 + 1 + (sumN w_B d.2.2.2.2.2.2.2.2.2.2.2.2.2.2.2.1 : Nat) + (sumN w_B d.2.2.2.2.2.2.2.2.2.2.2.2.2.2.2.2.1 : Nat) + 1 + (sumN w_B d.2.2.2.2.2.2.2.2.2.2.2.2.2.2.2.2.2.2.1 : Nat), mkL m_B w_B d.2.2.2.2.2.2.2.2.2.2.2.2.2.2.2.2.2.2.2.2.1 (k + 1 + (sumN w_B d.2.1 : Nat) + 1 + 1 + 1 + (sumN w_B d.2.2.2.2.2.1 : Nat) + 1 + 1 + (sumN w_B d.2.2.2.2.2.2.2.2.1 : Nat) + (sumN w_B d.2.2.2.2.2.2.2.2.2.1 : Nat) + 1 + (sumN w_B d.2.2.2.2.2.2.2.2.2.2.2.1 : Nat) + (sumN w_B d.2.2.2.2.2.2.2.2.2.2.2.2.1 : Nat) + 1 + 1 + (sumN w_B d.2.2.2.2.2.2.2.2.2.2.2.2.2.2.2.1 : Nat) + (sumN w_B d.2.2.2.2.2.2.2.2.2.2.2.2.2.2.2.2.1 : Nat) + 1 + (sumN w_B d.2.2.2.2.2.2.2.2.2.2.2.2.2.2.2.2.2.2.1 : Nat) + 1), k + 1 + (sumN w_B d.2.1 : Nat) + 1 + 1 + 1 + (sumN w_B d.2.2.2.2.2.1 : Nat) + 1 + 1 + (sumN w_B d.2.2.2.2.2.2.2.2.1 : Nat) + (sumN w_B d.2.2.2.2.2.2.2.2.2.1 : Nat) + 1 + (sumN w_B d.2.2.2.2.2.2.2.2.2.2.2.1 : Nat) + (sumN w_B d.2.2.2.2.2.2.2.2.2.2.2.2.1 : Nat) + 1 + 1 + (sumN w_B d.2.2.2.2.2.2.2.2.2.2.2.2.2.2.2.1 : Nat) + (sumN w_B d.2.2.2.2.2.2.2.2.2.2.2.2.2.2.2.2.1 : Nat) + 1 + (sumN w_B d.2.2.2.2.2.2.2.2.2.2.2.2.2.2.2.2.2.2.1 : Nat) + 1 + (sumN w_B d.2.2.2.2.2.2.2.2.2.2.2.2.2.2.2.2.2.2.2.2.1 : Nat), k + 1 + (sumN w_B d.2.1 : Nat) + 1 + 1 + 1 + (sumN w_B d.2.2.2.2.2.1 : Nat) + 1 + 1 + (sumN w_B d.2.2.2.2.2.2.2.2.1 : Nat) + (sumN w_B d.2.2.2.2.2.2.2.2.2.1 : Nat) + 1 + (sumN w_B d.2.2.2.2.2.2.2.2.2.2.2.1 : Nat) + (sumN w_B d.2.2.2.2.2.2.2.2.2.2.2.2.1 : Nat) + 1 + 1 + (sumN w_B d.2.2.2.2.2.2.2.2.2.2.2.2.2.2.2.1 : Nat) + (sumN w_B d.2.2.2.2.2.2.2.2.2.2.2.2.2.2.2.2.1 : Nat) + 1 + (sumN w_B d.2.2.2.2.2.2.2.2.2.2.2.2.2.2.2.2.2.2.1 : Nat) + 1 + (sumN w_B d.2.2.2.2.2.2.2.2.2.2.2.2.2.2.2.2.2.2.2.2.1 : Nat) + 1, mkL m_I w_I d.2.2.2.2.2.2.2.2.2.2.2.2.2.2.2.2.2.2.2.2.2.2.2.1 (k + 1 + (sumN w_B d.2.1 : Nat) + 1 + 1 + 1 + (sumN w_B d.2.2.2.2.2.1 : Nat) + 1 + 1 + (sumN w_B d.2.2.2.2.2.2.2.2.1 : Nat) + (sumN w_B d.2.2.2.2.2.2.2.2.2.1 : Nat) + 1 + (sumN w_B d.2.2.2.2.2.2.2.2.2.2.2.1 : Nat) + (sumN w_B d.2.2.2.2.2.2.2.2.2.2.2.2.1 : Nat) + 1 + 1 + (sumN w_B d.2.2.2.2.2.2.2.2.2.2.2.2.2.2.2.1 : Nat) + (sumN w_B d.2.2.2.2.2.2.2.2.2.2.2.2.2.2.2.2.1 : Nat) + 1 + (sumN w_B d.2.2.2.2.2.2.2.2.2.2.2.2.2.2.2.2.2.2.1 : Nat) + 1 + (sumN w_B d.2.2.2.2.2.2.2.2.2.2.2.2.2.2.2.2.2.2.2.2.1 : Nat) + 1 + 1), k + 1 + (sumN w_B d.2.1 : Nat) + 1 + 1 + 1 + (sumN w_B d.2.2.2.2.2.1 : Nat) + 1 + 1 + (sumN w_B d.2.2.2.2.2.2.2.2.1 : Nat) + (sumN w_B d.2.2.2.2.2.2.2.2.2.1 : Nat) + 1 + (sumN w_B d.2.2.2.2.2.2.2.2.2.2.2.1 : Nat) + (sumN w_B d.2.2.2.2.2.2.2.2.2.2.2.2.1 : Nat) + 1 + 1 + (sumN w_B d.2.2.2.2.2.2.2.2.2.2.2.2.2.2.2.1 : Nat) + (sumN w_B d.2.2.2.2.2.2.2.2.2.2.2.2.2.2.2.2.1 : Nat) + 1 + (sumN w_B d.2.2.2.2.2.2.2.2.2.2.2.2.2.2.2.2.2.2.1 : Nat) + 1 + (sumN w_B d.2.2.2.2.2.2.2.2.2.2.2.2.2.2.2.2.2.2.2.2.1 : Nat) + 1 + 1 + (sumN w_I d.2.2.2.2.2.2.2.2.2.2.2.2.2.2.2.2.2.2.2.2.2.2.2.1 : Nat), mkL m_B w_B d.2.2.2.2.2.2.2.2.2.2.2.2.2.2.2.2.2.2.2.2.2.2.2.2.2.1 (k + 1 + (sumN w_B d.2.1 : Nat) + 1 + 1 + 1 + (sumN w_B d.2.2.2.2.2.1 : Nat) + 1 + 1 + (sumN w_B d.2.2.2.2.2.2.2.2.1 : Nat) + (sumN w_B d.2.2.2.2.2.2.2.2.2.1 : Nat) + 1 + (sumN w_B d.2.2.2.2.2.2.2.2.2.2.2.1 : Nat) + (sumN w_B d.2.2.2.2.2.2.2.2.2.2.2.2.1 : Nat) + 1 + 1 + (sumN w_B d.2.2.2.2.2.2.2.2.2.2.2.2.2.2.2.1 : Nat) + (sumN w_B d.2.2.2.2.2.2.2.2.2.2.2.2.2.2.2.2.1 : Nat) + 1 + (sumN w_B d.2.2.2.2.2.2.2.2.2.2.2.2.2.2.2.2.2.2.1 : Nat) + 1 + (sumN w_B d.2.2.2.2.2.2.2.2.2.2.2.2.2.2.2.2.2.2.2.2.1 : Nat) + 1 + 1 + (sumN w_I d.2.2.2.2.2.2.2.2.2.2.2.2.2.2.2.2.2.2.2.2.2.2.2.1 : Nat) + 1), k + 1 + (sumN w_B d.2.1 : Nat) + 1 + 1 + 1 + (sumN w_B d.2.2.2.2.2.1 : Nat) + 1 + 1 + (sumN w_B d.2.2.2.2.2.2.2.2.1 : Nat) + (sumN w_B d.2.2.2.2.2.2.2.2.2.1 : Nat) + 1 + (sumN w_B d.2.2.2.2.2.2.2.2.2.2.2.1 : Nat) + (sumN w_B d.2.2.2.2.2.2.2.2.2.2.2.2.1 : Nat) + 1 + 1 + (sumN w_B d.2.2.2.2.2.2.2.2.2.2.2.2.2.2.2.1 : Nat) + (sumN w_B d.2.2.2.2.2.2.2.2.2.2.2.2.2.2.2.2.1 : Nat) + 1 + (sumN w_B d.2.2.2.2.2.2.2.2.2.2.2.2.2.2.2.2.2.2.1 : Nat) + 1 + (sumN w_B d.2.2.2.2.2.2.2.2.2.2.2.2.2.2.2.2.2.2.2.2.1 : Nat) + 1 + 1 + (sumN w_I d.2.2.2.2.2.2.2.2.2.2.2.2.2.2.2.2.2.2.2.2.2.2.2.1 : Nat) + 1 + (sumN w_B d.2.2.2.2.2.2.2.2.2.2.2.2.2.2.2.2.2.2.2.2.2.2.2.2.2.1 : Nat), k + 1 + (sumN w_B d.2.1 : Nat) + 1 + 1 + 1 + (sumN w_B d.2.2.2.2.2.1 : Nat) + 1 + 1 + (sumN w_B d.2.2.2.2.2.2.2.2.1 : Nat) + (sumN w_B d.2.2.2.2.2.2.2.2.2.1 : Nat) + 1 + (sumN w_B d.2.2.2.2.2.2.2.2.2.2.2.1 : Nat) + (sumN w_B d.2.2.2.2.2.2.2.2.2.2.2.2.1 : Nat) + 1 + 1 + (sumN w_B d.2.2.2.2.2.2.2.2.2.2.2.2.2.2.2.1 : Nat) + (sumN w_B d.2.2.2.2.2.2.2.2.2.2.2.2.2.2.2.2.1 : Nat) + 1 + (sumN w_B d.2.2.2.2.2.2.2.2.2.2.2.2.2.2.2.2.2.2.1 : Nat) + 1 + (sumN w_B d.2.2.2.2.2.2.2.2.2.2.2.2.2.2.2.2.2.2.2.2.1 : Nat) + 1 + 1 + (sumN w_I d.2.2.2.2.2.2.2.2.2.2.2.2.2.2.2.2.2.2.2.2.2.2.2.1 : Nat) + 1 + (sumN w_B d.2.2.2.2.2.2.2.2.2.2.2.2.2.2.2.2.2.2.2.2.2.2.2.2.2.1 : Nat) + 1, mkL m_I w_I d.2.2.2.2.2.2.2.2.2.2.2.2.2.2.2.2.2.2.2.2.2.2.2.2.2.2.2.2.1 (k + 1 + (sumN w_B d.2.1 : Nat) + 1 + 1 + 1 + (sumN w_B d.2.2.2.2.2.1 : Nat) + 1 + 1 + (sumN w_B d.2.2.2.2.2.2.2.2.1 : Nat) + (sumN w_B d.2.2.2.2.2.2.2.2.2.1 : Nat) + 1 + (sumN w_B d.2.2.2.2.2.2.2.2.2.2.2.1 : Nat) + (sumN w_B d.2.2.2.2.2.2.2.2.2.2.2.2.1 : Nat) + 1 + 1 + (sumN w_B d.2.2.2.2.2.2.2.2.2.2.2.2.2.2.2.1 : Nat) + (sumN w_B d.2.2.2.2.2.2.2.2.2.2.2.2.2.2.2.2.1 : Nat) + 1 + (sumN w_B d.2.2.2.2.2.2.2.2.2.2.2.2.2.2.2.2.2.2.1 : Nat) + 1 + (sumN w_B d.2.2.2.2.2.2.2.2.2.2.2.2.2.2.2.2.2.2.2.2.1 : Nat) + 1 + 1 + (sumN w_I d.2.2.2.2.2.2.2.2.2.2.2.2.2.2.2.2.2.2.2.2.2.2.2.1 : Nat) + 1 + (sumN w_B d.2.2.2.2.2.2.2.2.2.2.2.2.2.2.2.2.2.2.2.2.2.2.2.2.2.1 : Nat) + 1 + 1), ((k + 1 + (sumN w_B d.2.1 : Nat) + 1 + 1 + 1 + (sumN w_B d.2.2.2.2.2.1 : Nat) + 1 + 1 + (sumN w_B d.2.2.2.2.2.2.2.2.1 : Nat) + (sumN w_B d.2.2.2.2.2.2.2.2.2.1 : Nat) + 1 + (sumN w_B d.2.2.2.2.2.2.2.2.2.2.2.1 : Nat) + (sumN w_B d.2.2.2.2.2.2.2.2.2.2.2.2.1 : Nat) + 1 + 1 + (sumN w_B d.2.2.2.2.2.2.2.2.2.2.2.2.2.2.2.1 : Nat) + (sumN w_B d.2.2.2.2.2.2.2.2.2.2.2.2.2.2.2.2.1 : Nat) + 1 + (sumN w_B d.2.2.2.2.2.2.2.2.2.2.2.2.2.2.2.2.2.2.1 : Nat) + 1 + (sumN w_B d.2.2.2.2.2.2.2.2.2.2.2.2.2.2.2.2.2.2.2.2.1 : Nat) + 1 + 1 + (sumN w_I d.2.2.2.2.2.2.2.2.2.2.2.2.2.2.2.2.2.2.2.2.2.2.2.1 : Nat) + 1 + (sumN w_B d.2.2.2.2.2.2.2.2.2.2.2.2.2.2.2.2.2.2.2.2.2.2.2.2.2.1 : Nat) + 1 + 1 + (sumN w_I d.2.2.2.2.2.2.2.2.2.2.2.2.2.2.2.2.2.2.2.2.2.2.2.2.2.2.2.2.1 : Nat)) % (3 : Int)) == (0 : Int), k + 1 + (sumN w_B d.2.1 : Nat) + 1 + 1 + 1 + (sumN w_B d.2.2.2.2.2.1 : Nat) + 1 + 1 + (sumN w_B d.2.2.2.2.2.2.2.2.1 : Nat) + (sumN w_B d.2.2.2.2.2.2.2.2.2.1 : Nat) + 1 + (sumN w_B d.2.2.2.2.2.2.2.2.2.2.2.1 : Nat) + (sumN w_B d.2.2.2.2.2.2.2.2.2.2.2.2.1 : Nat) + 1 + 1 + (sumN w_B d.2.2.2.2.2.2.2.2.2.2.2.2.2.2.2.1 : Nat) + (sumN w_B d.2.2.2.2.2.2.2.2.2.2.2.2.2.2.2.2.1 : Nat) + 1 + (sumN w_B d.2.2.2.2.2.2.2.2.2.2.2.2.2.2.2.2.2.2.1 : Nat) + 1 + (sumN w_B d.2.2.2.2.2.2.2.2.2.2.2.2.2.2.2.2.2.2.2.2.1 : Nat) + 1 + 1 + (sumN w_I d.2.2.2.2.2.2.2.2.2.2.2.2.2.2.2.2.2.2.2.2.2.2.2.1 : Nat) + 1 + (sumN w_B d.2.2.2.2.2.2.2.2.2.2.2.2.2.2.2.2.2.2.2.2.2.2.2.2.2.1 : Nat) + 1 + 1 + (sumN w_I d.2.2.2.2.2.2.2.2.2.2.2.2.2.2.2.2.2.2.2.2.2.2.2.2.2.2.2.2.1 : Nat) + 1, mkL m_B w_B d.2.2.2.2.2.2.2.2.2.2.2.2.2.2.2.2.2.2.2.2.2.2.2.2.2.2.2.2.2.2.2.1 (k + 1 + (sumN w_B d.2.1 : Nat) + 1 + 1 + 1 + (sumN w_B d.2.2.2.2.2.1 : Nat) + 1 + 1 + (sumN w_B d.2.2.2.2.2.2.2.2.1 : Nat) + (sumN w_B d.2.2.2.2.2.2.2.2.2.1 : Nat) + 1 + (sumN w_B d.2.2.2.2.2.2.2.2.2.2.2.1 : Nat) + (sumN w_B d.2.2.2.2.2.2.2.2.2.2.2.2.1 : Nat) + 1 + 1 + (sumN w_B d.2.2.2.2.2.2.2.2.2.2.2.2.2.2.2.1 : Nat) + (sumN w_B d.2.2.2.2.2.2.2.2.2.2.2.2.2.2.2.2.1 : Nat) + 1 + (sumN w_B d.2.2.2.2.2.2.2.2.2.2.2.2.2.2.2.2.2.2.1 : Nat) + 1 + (sumN w_B d.2.2.2.2.2.2.2.2.2.2.2.2.2.2.2.2.2.2.2.2.1 : Nat) + 1 + 1 + (sumN w_I d.2.2.2.2.2.2.2.2.2.2.2.2.2.2.2.2.2.2.2.2.2.2.2.1 : Nat) + 1 + (sumN w_B d.2.2.2.2.2.2.2.2.2.2.2.2.2.2.2.2.2.2.2.2.2.2.2.2.2.1 : Nat) + 1 + 1 + (sumN w_I d.2.2.2.2.2.2.2.2.2.2.2.2.2.2.2.2.2.2.2.2.2.2.2.2.2.2.2.2.1 : Nat) + 1 + 1), ((k + 1 + (sumN w_B d.2.1 : Nat) + 1 + 1 + 1 + (sumN w_B d.2.2.2.2.2.1 : Nat) + 1 + 1 + (sumN w_B d.2.2.2.2.2.2.2.2.1 : Nat) + (sumN w_B d.2.2.2.2.2.2.2.2.2.1 : Nat) + 1 + (sumN w_B d.2.2.2.2.2.2.2.2.2.2.2.1 : Nat) + (sumN w_B d.2.2.2.2.2.2.2.2.2.2.2.2.1 : Nat) + 1 + 1 + (sumN w_B d.2.2.2.2.2.2.2.2.2.2.2.2.2.2.2.1 : Nat) + (sumN w_B d.2.2.2.2.2.2.2.2.2.2.2.2.2.2.2.2.1 : Nat) + 1 + (sumN w_B d.2.2.2.2.2.2.2.2.2.2.2.2.2.2.2.2.2.2.1 : Nat) + 1 + (sumN w_B d.2.2.2.2.2.2.2.2.2.2.2.2.2.2.2.2.2.2.2.2.1 : Nat) + 1 + 1 + (sumN w_I d.2.2.2.2.2.2.2.2.2.2.2.2.2.2.2.2.2.2.2.2.2.2.2.1 : Nat) + 1 + (sumN w_B d.2.2.2.2.2.2.2.2.2.2.2.2.2.2.2.2.2.2.2.2.2.2.2.2.2.1 : Nat) + 1 + 1 + (sumN w_I d.2.2.2.2.2.2.2.2.2.2.2.2.2.2.2.2.2.2.2.2.2.2.2.2.2.2.2.2.1 : Nat) + 1 + 1 + (sumN w_B d.2.2.2.2.2.2.2.2.2.2.2.2.2.2.2.2.2.2.2.2.2.2.2.2.2.2.2.2.2.2.2.1 : Nat)) % (3 : Int)) == (0 : Int), k + 1 + (sumN w_B d.2.1 : Nat) + 1 + 1 + 1 + (sumN w_B d.2.2.2.2.2.1 : Nat) + 1 + 1 + (sumN w_B d.2.2.2.2.2.2.2.2.1 : Nat) + (sumN w_B d.2.2.2.2.2.2.2.2.2.1 : Nat) + 1 + (sumN w_B d.2.2.2.2.2.2.2.2.2.2.2.1 : Nat) + (sumN w_B d.2.2.2.2.2.2.2.2.2.2.2.2.1 : Nat) + 1 + 1 + (sumN w_B d.2.2.2.2.2.2.2.2.2.2.2.2.2.2.2.1 : Nat) + (sumN w_B d.2.2.2.2.2.2.2.2.2.2.2.2.2.2.2.2.1 : Nat) + 1 + (sumN w_B d.2.2.2.2.2.2.2.2.2.2.2.2.2.2.2.2.2.2.1 : Nat) + 1 + (sumN w_B d.2.2.2.2.2.2.2.2.2.2.2.2.2.2.2.2.2.2.2.2.1 : Nat) + 1 + 1 + (sumN w_I d.2.2.2.2.2.2.2.2.2.2.2.2.2.2.2.2.2.2.2.2.2.2.2.1 : Nat) + 1 + (sumN w_B d.2.2.2.2.2.2.2.2.2.2.2.2.2.2.2.2.2.2.2.2.2.2.2.2.2.1 : Nat) + 1 + 1 + (sumN w_I d.2.2.2.2.2.2.2.2.2.2.2.2.2.2.2.2.2.2.2.2.2.2.2.2.2.2.2.2.1 : Nat) + 1 + 1 + (sumN w_B d.2.2.2.2.2.2.2.2.2.2.2.2.2.2.2.2.2.2.2.2.2.2.2.2.2.2.2.2.2.2.2.1 : Nat) + 1, k + 1 + (sumN w_B d.2.1 : Nat) + 1 + 1 + 1 + (sumN w_B d.2.2.2.2.2.1 : Nat) + 1 + 1 + (sumN w_B d.2.2.2.2.2.2.2.2.1 : Nat) + (sumN w_B d.2.2.2.2.2.2.2.2.2.1 : Nat) + 1 + (sumN w_B d.2.2.2.2.2.2.2.2.2.2.2.1 : Nat) + (sumN w_B d.2.2.2.2.2.2.2.2.2.2.2.2.1 : Nat) + 1 + 1 + (sumN w_B d.2.2.2.2.2.2.2.2.2.2.2.2.2.2.2.1 : Nat) + (sumN w_B d.2.2.2.2.2.2.2.2.2.2.2.2.2.2.2.2.1 : Nat) + 1 + (sumN w_B d.2.2.2.2.2.2.2.2.2.2.2.2.2.2.2.2.2.2.1 : Nat) + 1 + (sumN w_B d.2.2.2.2.2.2.2.2.2.2.2.2.2.2.2.2.2.2.2.2.1 : Nat) + 1 + 1 + (sumN w_I d.2.2.2.2.2.2.2.2.2.2.2.2.2.2.2.2.2.2.2.2.2.2.2.1 : Nat) + 1 + (sumN w_B d.2.2.2.2.2.2.2.2.2.2.2.2.2.2.2.2.2.2.2.2.2.2.2.2.2.1 : Nat) + 1 + 1 + (sumN w_I d.2.2.2.2.2.2.2.2.2.2.2.2.2.2.2.2.2.2.2.2.2.2.2.2.2.2.2.2.1 : Nat) + 1 + 1 + (sumN w_B d.2.2.2.2.2.2.2.2.2.2.2.2.2.2.2.2.2.2.2.2.2.2.2.2.2.2.2.2.2.2.2.1 : Nat) + 1 + 1, k + 1 + (sumN w_B d.2.1 : Nat) + 1 + 1 + 1 + (sumN w_B d.2.2.2.2.2.1 : Nat) + 1 + 1 + (sumN w_B d.2.2.2.2.2.2.2.2.1 : Nat) + (sumN w_B d.2.2.2.2.2.2.2.2.2.1 : Nat) + 1 + (sumN w_B d.2.2.2.2.2.2.2.2.2.2.2.1 : Nat) + (sumN w_B d.2.2.2.2.2.2.2.2.2.2.2.2.1 : Nat) + 1 + 1 + (sumN w_B d.2.2.2.2.2.2.2.2.2.2.2.2.2.2.2.1 : Nat) + (sumN w_B d.2.2.2.2.2.2.2.2.2.2.2.2.2.2.2.2.1 : Nat) + 1 + (sumN w_B d.2.2.2.2.2.2.2.2.2.2.2.2.2.2.2.2.2.2.1 : Nat) + 1 + (sumN w_B d.2.2.2.2.2.2.2.2.2.2.2.2.2.2.2.2.2.2.2.2.1 : Nat) + 1 + 1 + (sumN w_I d.2.2.2.2.2.2.2.2.2.2.2.2.2.2.2.2.2.2.2.2.2.2.2.1 : Nat) + 1 + (sumN w_B d.2.2.2.2.2.2.2.2.2.2.2.2.2.2.2.2.2.2.2.2.2.2.2.2.2.1 : Nat) + 1 + 1 + (sumN w_I d.2.2.2.2.2.2.2.2.2.2.2.2.2.2.2.2.2.2.2.2.2.2.2.2.2.2.2.2.1 : Nat) + 1 + 1 + (sumN w_B d.2.2.2.2.2.2.2.2.2.2.2.2.2.2.2.2.2.2.2.2.2.2.2.2.2.2.2.2.2.2.2.1 : Nat) + 1 + 1 + 1, ((k + 1 + (sumN w_B d.2.1 : Nat) + 1 + 1 + 1 + (sumN w_B d.2.2.2.2.2.1 : Nat) + 1 + 1 + (sumN w_B d.2.2.2.2.2.2.2.2.1 : Nat) + (sumN w_B d.2.2.2.2.2.2.2.2.2.1 : Nat) + 1 + (sumN w_B d.2.2.2.2.2.2.2.2.2.2.2.1 : Nat) + (sumN w_B d.2.2.2.2.2.2.2.2.2.2.2.2.1 : Nat) + 1 + 1 + (sumN w_B d.2.2.2.2.2.2.2.2.2.2.2.2.2.2.2.1 : Nat) + (sumN w_B d.2.2.2.2.2.2.2.2.2.2.2.2.2.2.2.2.1 : Nat) + 1 + (sumN w_B d.2.2.2.2.2.2.2.2.2.2.2.2.2.2.2.2.2.2.1 : Nat) + 1 + (sumN w_B d.2.2.2.2.2.2.2.2.2.2.2.2.2.2.2.2.2.2.2.2.1 : Nat) + 1 + 1 + (sumN w_I d.2.2.2.2.2.2.2.2.2.2.2.2.2.2.2.2.2.2.2.2.2.2.2.1 : Nat) + 1 + (sumN w_B d.2.2.2.2.2.2.2.2.2.2.2.2.2.2.2.2.2.2.2.2.2.2.2.2.2.1 : Nat) + 1 + 1 + (sumN w_I d.2.2.2.2.2.2.2.2.2.2.2.2.2.2.2.2.2.2.2.2.2.2.2.2.2.2.2.2.1 : Nat) + 1 + 1 + (sumN w_B d.2.2.2.2.2.2.2.2.2.2.2.2.2.2.2.2.2.2.2.2.2.2.2.2.2.2.2.2.2.2.2.1 : Nat) + 1 + 1 + 1 + 1) % (3 : Int)) == (0 : Int), k + 1 + (sumN w_B d.2.1 : Nat) + 1 + 1 + 1 + (sumN w_B d.2.2.2.2.2.1 : Nat) + 1 + 1 + (sumN w_B d.2.2.2.2.2.2.2.2.1 : Nat) + (sumN w_B d.2.2.2.2.2.2.2.2.2.1 : Nat) + 1 + (sumN w_B d.2.2.2.2.2.2.2.2.2.2.2.1 : Nat) + (sumN w_B d.2.2.2.2.2.2.2.2.2.2.2.2.1 : Nat) + 1 + 1 + (sumN w_B d.2.2.2.2.2.2.2.2.2.2.2.2.2.2.2.1 : Nat) + (sumN w_B d.2.2.2.2.2.2.2.2.2.2.2.2.2.2.2.2.1 : Nat) + 1 + (sumN w_B d.2.2.2.2.2.2.2.2.2.2.2.2.2.2.2.2.2.2.1 : Nat) + 1 + (sumN w_B d.2.2.2.2.2.2.2.2.2.2.2.2.2.2.2.2.2.2.2.2.1 : Nat) + 1 + 1 + (sumN w_I d.2.2.2.2.2.2.2.2.2.2.2.2.2.2.2.2.2.2.2.2.2.2.2.1 : Nat) + 1 + (sumN w_B d.2.2.2.2.2.2.2.2.2.2.2.2.2.2.2.2.2.2.2.2.2.2.2.2.2.1 : Nat) + 1 + 1 + (sumN w_I d.2.2.2.2.2.2.2.2.2.2.2.2.2.2.2.2.2.2.2.2.2.2.2.2.2.2.2.2.1 : Nat) + 1 + 1 + (sumN w_B d.2.2.2.2.2.2.2.2.2.2.2.2.2.2.2.2.2.2.2.2.2.2.2.2.2.2.2.2.2.2.2.1 : Nat) + 1 + 1 + 1 + 1 + 1, k + 1 + (sumN w_B d.2.1 : Nat) + 1 + 1 + 1 + (sumN w_B d.2.2.2.2.2.1 : Nat) + 1 + 1 + (sumN w_B d.2.2.2.2.2.2.2.2.1 : Nat) + (sumN w_B d.2.2.2.2.2.2.2.2.2.1 : Nat) + 1 + (sumN w_B d.2.2.2.2.2.2.2.2.2.2.2.1 : Nat) + (sumN w_B d.2.2.2.2.2.2.2.2.2.2.2.2.1 : Nat) + 1 + 1 + (sumN w_B d.2.2.2.2.2.2.2.2.2.2.2.2.2.2.2.1 : Nat) + (sumN w_B d.2.2.2.2.2.2.2.2.2.2.2.2.2.2.2.2.1 : Nat) + 1 + (sumN w_B d.2.2.2.2.2.2.2.2.2.2.2.2.2.2.2.2.2.2.1 : Nat) + 1 + (sumN w_B d.2.2.2.2.2.2.2.2.2.2.2.2.2.2.2.2.2.2.2.2.1 : Nat) + 1 + 1 + (sumN w_I d.2.2.2.2.2.2.2.2.2.2.2.2.2.2.2.2.2.2.2.2.2.2.2.1 : Nat) + 1 + (sumN w_B d.2.2.2.2.2.2.2.2.2.2.2.2.2.2.2.2.2.2.2.2.2.2.2.2.2.1 : Nat) + 1 + 1 + (sumN w_I d.2.2.2.2.2.2.2.2.2.2.2.2.2.2.2.2.2.2.2.2.2.2.2.2.2.2.2.2.1 : Nat) + 1 + 1 + (sumN w_B d.2.2.2.2.2.2.2.2.2.2.2.2.2.2.2.2.2.2.2.2.2.2.2.2.2.2.2.2.2.2.2.1 : Nat) + 1 + 1 + 1 + 1 + 1 + 1, k + 1 + (sumN w_B d.2.1 : Nat) + 1 + 1 + 1 + (sumN w_B d.2.2.2.2.2.1 : Nat) + 1 + 1 + (sumN w_B d.2.2.2.2.2.2.2.2.1 : Nat) + (sumN w_B d.2.2.2.2.2.2.2.2.2.1 : Nat) + 1 + (sumN w_B d.2.2.2.2.2.2.2.2.2.2.2.1 : Nat) + (sumN w_B d.2.2.2.2.2.2.2.2.2.2.2.2.1 : Nat) + 1 + 1 + (sumN w_B d.2.2.2.2.2.2.2.2.2.2.2.2.2.2.2.1 : Nat) + (sumN w_B d.2.2.2.2.2.2.2.2.2.2.2.2.2.2.2.2.1 : Nat) + 1 + (sumN w_B d.2.2.2.2.2.2.2.2.2.2.2.2.2.2.2.2.2.2.1 : Nat) + 1 + (sumN w_B d.2.2.2.2.2.2.2.2.2.2.2.2.2.2.2.2.2.2.2.2.1 : Nat) + 1 + 1 + (sumN w_I d.2.2.2.2.2.2.2.2.2.2.2.2.2.2.2.2.2.2.2.2.2.2.2.1 : Nat) + 1 + (sumN w_B d.2.2.2.2.2.2.2.2.2.2.2.2.2.2.2.2.2.2.2.2.2.2.2.2.2.1 : Nat) + 1 + 1 + (sumN w_I d.2.2.2.2.2.2.2.2.2.2.2.2.2.2.2.2.2.2.2.2.2.2.2.2.2.2.2.2.1 : Nat) + 1 + 1 + (sumN w_B d.2.2.2.2.2.2.2.2.2.2.2.2.2.2.2.2.2.2.2.2.2.2.2.2.2.2.2.2.2.2.2.1 : Nat) + 1 + 1 + 1 + 1 + 1 + 1 + 1, k + 1 + (sumN w_B d.2.1 : Nat) + 1 + 1 + 1 + (sumN w_B d.2.2.2.2.2.1 : Nat) + 1 + 1 + (sumN w_B d.2.2.2.2.2.2.2.2.1 : Nat) + (sumN w_B d.2.2.2.2.2.2.2.2.2.1 : Nat) + 1 + (sumN w_B d.2.2.2.2.2.2.2.2.2.2.2.1 : Nat) + (sumN w_B d.2.2.2.2.2.2.2.2.2.2.2.2.1 : Nat) + 1 + 1 + (sumN w_B d.2.2.2.2.2.2.2.2.2.2.2.2.2.2.2.1 : Nat) + (sumN w_B d.2.2.2.2.2.2.2.2.2.2.2.2.2.2.2.2.1 : Nat) + 1 + (sumN w_B d.2.2.2.2.2.2.2.2.2.2.2.2.2.2.2.2.2.2.1 : Nat) + 1 + (sumN w_B d.2.2.2.2.2.2.2.2.2.2.2.2.2.2.2.2.2.2.2.2.1 : Nat) + 1 + 1 + (sumN w_I d.2.2.2.2.2.2.2.2.2.2.2.2.2.2.2.2.2.2.2.2.2.2.2.1 : Nat) + 1 + (sumN w_B d.2.2.2.2.2.2.2.2.2.2.2.2.2.2.2.2.2.2.2.2.2.2.2.2.2.1 : Nat) + 1 + 1 + (sumN w_I d.2.2.2.2.2.2.2.2.2.2.2.2.2.2.2.2.2.2.2.2.2.2.2.2.2.2.2.2.1 : Nat) + 1 + 1 + (sumN w_B d.2.2.2.2.2.2.2.2.2.2.2.2.2.2.2.2.2.2.2.2.2.2.2.2.2.2.2.2.2.2.2.1 : Nat) + 1 + 1 + 1 + 1 + 1 + 1 + 1 + 1, ())
def wt_Client (d : YClient) : Nat := sumN w_B d.2.1 + sumN w_B d.2.2.2.2.2.1 + sumN w_B d.2.2.2.2.2.2.2.2.1 + sumN w_B d.2.2.2.2.2.2.2.2.2.1 + sumN w_B d.2.2.2.2.2.2.2.2.2.2.2.1 + sumN w_B d.2.2.2.2.2.2.2.2.2.2.2.2.1 + sumN w_B d.2.2.2.2.2.2.2.2.2.2.2.2.2.2.2.1 + sumN w_B d.2.2.2.2.2.2.2.2.2.2.2.2.2.2.2.2.1 + sumN w_B d.2.2.2.2.2.2.2.2.2.2.2.2.2.2.2.2.2.2.1 + sumN w_B d.2.2.2.2.2.2.2.2.2.2.2.2.2.2.2.2.2.2.2.2.1 + sumN w_I d.2.2.2.2.2.2.2.2.2.2.2.2.2.2.2.2.2.2.2.2.2.2.2.1 + sumN w_B d.2.2.2.2.2.2.2.2.2.2.2.2.2.2.2.2.2.2.2.2.2.2.2.2.2.1 + sumN w_I d.2.2.2.2.2.2.2.2.2.2.2.2.2.2.2.2.2.2.2.2.2.2.2.2.2.2.2.2.1 + sumN w_B d.2.2.2.2.2.2.2.2.2.2.2.2.2.2.2.2.2.2.2.2.2.2.2.2.2.2.2.2.2.2.2.1
theorem w_le_Client (d : YClient) : w_Client d ≤ 32 * need_Client d + 32 := by
  have h1 := sumN_le1 (f := w_B) (fun _ => by simp [w_B]) d.2.1
  have h5 := sumN_le1 (f := w_B) (fun _ => by simp [w_B]) d.2.2.2.2.2.1
  have h8 := sumN_le1 (f := w_B) (fun _ => by simp [w_B]) d.2.2.2.2.2.2.2.2.1
  have h9 := sumN_le1 (f := w_B) (fun _ => by simp [w_B]) d.2.2.2.2.2.2.2.2.2.1
  have h11 := sumN_le1 (f := w_B) (fun _ => by simp [w_B]) d.2.2.2.2.2.2.2.2.2.2.2.1
  have h12 := sumN_le1 (f := w_B) (fun _ => by simp [w_B]) d.2.2.2.2.2.2.2.2.2.2.2.2.1
  have h15 := sumN_le1 (f := w_B) (fun _ => by simp [w_B]) d.2.2.2.2.2.2.2.2.2.2.2.2.2.2.2.1
  have h16 := sumN_le1 (f := w_B) (fun _ => by simp [w_B]) d.2.2.2.2.2.2.2.2.2.2.2.2.2.2.2.2.1
  have h18 := sumN_le1 (f := w_B) (fun _ => by simp [w_B]) d.2.2.2.2.2.2.2.2.2.2.2.2.2.2.2.2.2.2.1
  have h20 := sumN_le1 (f := w_B) (fun _ => by simp [w_B]) d.2.2.2.2.2.2.2.2.2.2.2.2.2.2.2.2.2.2.2.2.1
  have h23 := sumN_le1 (f := w_I) (fun _ => by simp [w_I]) d.2.2.2.2.2.2.2.2.2.2.2.2.2.2.2.2.2.2.2.2.2.2.2.1
  have h25 := sumN_le1 (f := w_B) (fun _ => by simp [w_B]) d.2.2.2.2.2.2.2.2.2.2.2.2.2.2.2.2.2.2.2.2.2.2.2.2.2.1
  have h28 := sumN_le1 (f := w_I) (fun _ => by simp [w_I]) d.2.2.2.2.2.2.2.2.2.2.2.2.2.2.2.2.2.2.2.2.2.2.2.2.2.2.2.2.1
  have h31 := sumN_le1 (f := w_B) (fun _ => by simp [w_B]) d.2.2.2.2.2.2.2.2.2.2.2.2.2.2.2.2.2.2.2.2.2.2.2.2.2.2.2.2.2.2.2.1
  simp only [w_Client, need_Client]; omega
theorem wt_le_Client (d : YClient) : wt_Client d ≤ 32 * need_Client d + 32 := by
  have h1 := sumN_le1 (f := w_B) (fun _ => by simp [w_B]) d.2.1
  have h5 := sumN_le1 (f := w_B) (fun _ => by simp [w_B]) d.2.2.2.2.2.1
  have h8 := sumN_le1 (f := w_B) (fun _ => by simp [w_B]) d.2.2.2.2.2.2.2.2.1
  have h9 := sumN_le1 (f := w_B) (fun _ => by simp [w_B]) d.2.2.2.2.2.2.2.2.2.1
  have h11 := sumN_le1 (f := w_B) (fun _ => by simp [w_B]) d.2.2.2.2.2.2.2.2.2.2.2.1
  have h12 := sumN_le1 (f := w_B) (fun _ => by simp [w_B]) d.2.2.2.2.2.2.2.2.2.2.2.2.1
  have h15 := sumN_le1 (f := w_B) (fun _ => by simp [w_B]) d.2.2.2.2.2.2.2.2.2.2.2.2.2.2.2.1
  have h16 := sumN_le1 (f := w_B) (fun _ => by simp [w_B]) d.2.2.2.2.2.2.2.2.2.2.2.2.2.2.2.2.1
  have h18 := sumN_le1 (f := w_B) (fun _ => by simp [w_B]) d.2.2.2.2.2.2.2.2.2.2.2.2.2.2.2.2.2.2.1
  have h20 := sumN_le1 (f := w_B) (fun _ => by simp [w_B]) d.2.2.2.2.2.2.2.2.2.2.2.2.2.2.2.2.2.2.2.2.1
  have h23 := sumN_le1 (f := w_I) (fun _ => by simp [w_I]) d.2.2.2.2.2.2.2.2.2.2.2.2.2.2.2.2.2.2.2.2.2.2.2.1
  have h25 := sumN_le1 (f := w_B) (fun _ => by simp [w_B]) d.2.2.2.2.2.2.2.2.2.2.2.2.2.2.2.2.2.2.2.2.2.2.2.2.2.1
  have h28 := sumN_le1 (f := w_I) (fun _ => by simp [w_I]) d.2.2.2.2.2.2.2.2.2.2.2.2.2.2.2.2.2.2.2.2.2.2.2.2.2.2.2.2.1
  have h31 := sumN_le1 (f := w_B) (fun _ => by simp [w_B]) d.2.2.2.2.2.2.2.2.2.2.2.2.2.2.2.2.2.2.2.2.2.2.2.2.2.2.2.2.2.2.2.1
  simp only [wt_Client, need_Client]; omega
def need_Timer (d : YTimer) : Nat := 0
def lo_Timer (d : YTimer) : Prop := True
def w_Timer (d : YTimer) : Nat := 1 + 1 + 1 + 1
def m_Timer (d : YTimer) (k : Int) : YTimer := (((k) % (3 : Int)) == (0 : Int), k + 1, k + 1 + 1, k + 1 + 1 + 1, ())
def wt_Timer (d : YTimer) : Nat := 0
theorem w_le_Timer (d : YTimer) : w_Timer d ≤ 32 * need_Timer d + 32 := by
  simp only [w_Timer, need_Timer]; omega
theorem wt_le_Timer (d : YTimer) : wt_Timer d ≤ 32 * need_Timer d + 32 := by
  simp only [wt_Timer, need_Timer]; omega
def need_Note (d : YNote) : Nat := d.2.2.2.1.length + d.2.2.2.2.1.length + d.2.2.2.2.2.2.2.1.length + d.2.2.2.2.2.2.2.2.1.length
def lo_Note (d : YNote) : Prop := d.2.2.2.1.length ≤ 9223372036854775807 ∧ d.2.2.2.2.1.length ≤ 9223372036854775807 ∧ d.2.2.2.2.2.2.2.1.length ≤ 9223372036854775807 ∧ d.2.2.2.2.2.2.2.2.1.length ≤ 9223372036854775807
def w_Note (d : YNote) : Nat := 1 + 1 + 1 + sumN w_B d.2.2.2.1 + sumN w_B d.2.2.2.2.1 + 1 + 1 + sumN w_B d.2.2.2.2.2.2.2.1 + sumN w_B d.2.2.2.2.2.2.2.2.1 + 1 + 1 + 1
def m_Note (d : YNote) (k : Int) : YNote := (k, k + 1, k + 1 + 1, mkL m_B w_B d.2.2.2.1 (k + 1 + 1 + 1), mkL m_B w_B d.2.2.2.2.1 (k + 1 + 1 + 1 + (sumN w_B d.2.2.2.1 : Nat)), k + 1 + 1 + 1 + (sumN w_B d.2.2.2.1 : Nat) + (sumN w_B d.2.2.2.2.1 : Nat), k + 1 + 1 + 1 + (sumN w_B d.2.2.2.1 : Nat) + (sumN w_B d.2.2.2.2.1 : Nat) + 1, mkL m_B w_B d.2.2.2.2.2.2.2.1 (k + 1 + 1 + 1 + (sumN w_B d.2.2.2.1 : Nat) + (sumN w_B d.2.2.2.2.1 : Nat) + 1 + 1), mkL m_B w_B d.2.2.2.2.2.2.2.2.1 (k + 1 + 1 + 1 + (sumN w_B d.2.2.2.1 : Nat) + (sumN w_B d.2.2.2.2.1 : Nat) + 1 + 1 + (sumN w_B d.2.2.2.2.2.2.2.1 : Nat)), k + 1 + 1 + 1 + (sumN w_B d.2.2.2.1 : Nat) + (sumN w_B d.2.2.2.2.1 : Nat) + 1 + 1 + (sumN w_B d.2.2.2.2.2.2.2.1 : Nat) + (sumN w_B d.2.2.2.2.2.2.2.2.1 : Nat), k + 1 + 1 + 1 + (sumN w_B d.2.2.2.1 : Nat) + (sumN w_B d.2.2.2.2.1 : Nat) + 1 + 1 + (sumN w_B d.2.2.2.2.2.2.2.1 : Nat) + (sumN w_B d.2.2.2.2.2.2.2.2.1 : Nat) + 1, k + 1 + 1 + 1 + (sumN w_B d.2.2.2.1 : Nat) + (sumN w_B d.2.2.2.2.1 : Nat) + 1 + 1 + (sumN w_B d.2.2.2.2.2.2.2.1 : Nat) + (sumN w_B d.2.2.2.2.2.2.2.2.1 : Nat) + 1 + 1, ())
def wt_Note (d : YNote) : Nat := sumN w_B d.2.2.2.1 + sumN w_B d.2.2.2.2.1 + sumN w_B d.2.2.2.2.2.2.2.1 + sumN w_B d.2.2.2.2.2.2.2.2.1
theorem w_le_Note (d : YNote) : w_Note d ≤ 32 * need_Note d + 32 := by
  have h3 := sumN_le1 (f := w_B) (fun _ => by simp [w_B]) d.2.2.2.1
  have h4 := sumN_le1 (f := w_B) (fun _ => by simp [w_B]) d.2.2.2.2.1
  have h7 := sumN_le1 (f := w_B) (fun _ => by simp [w_B]) d.2.2.2.2.2.2.2.1
  have h8 := sumN_le1 (f := w_B) (fun _ => by simp [w_B]) d.2.2.2.2.2.2.2.2.1
  simp only [w_Note, need_Note]; omega
theorem wt_le_Note (d : YNote) : wt_Note d ≤ 32 * need_Note d + 32 := by
  have h3 := sumN_le1 (f := w_B) (fun _ => by simp [w_B]) d.2.2.2.1
  have h4 := sumN_le1 (f := w_B) (fun _ => by simp [w_B]) d.2.2.2.2.1
  have h7 := sumN_le1 (f := w_B) (fun _ => by simp [w_B]) d.2.2.2.2.2.2.2.1
  have h8 := sumN_le1 (f := w_B) (fun _ => by simp [w_B]) d.2.2.2.2.2.2.2.2.1
  simp only [wt_Note, need_Note]; omega
def need_boundsError (d : YboundsError) : Nat := 0
def lo_boundsError (d : YboundsError) : Prop := True
def w_boundsError (d : YboundsError) : Nat := 1 + 1 + 1 + 1
def m_boundsError (d : YboundsError) (k : Int) : YboundsError := (k, k + 1, ((k + 1 + 1) % (3 : Int)) == (0 : Int), IntKind.u8.wrap (k + 1 + 1 + 1), ())
def wt_boundsError (d : YboundsError) : Nat := 0
theorem w_le_boundsError (d : YboundsError) : w_boundsError d ≤ 32 * need_boundsError d + 32 := by
  simp only [w_boundsError, need_boundsError]; omega
theorem wt_le_boundsError (d : YboundsError) : wt_boundsError d ≤ 32 * need_boundsError d + 32 := by
  simp only [wt_boundsError, need_boundsError]; omega
def need_Hash (d : YHash) : Nat := d.1.length + d.2.1.length
def lo_Hash (d : YHash) : Prop := d.1.length ≤ 9223372036854775807 ∧ d.2.1.length ≤ 9223372036854775807
def w_Hash (d : YHash) : Nat := sumN w_I d.1 + sumN w_B d.2.1 + 1
def m_Hash (d : YHash) (k : Int) : YHash := (mkL m_I w_I d.1 (k), mkL m_B w_B d.2.1 (k + (sumN w_I d.1 : Nat)), k + (sumN w_I d.1 : Nat) + (sumN w_B d.2.1 : Nat), ())
def wt_Hash (d : YHash) : Nat := sumN w_I d.1 + sumN w_B d.2.1
theorem w_le_Hash (d : YHash) : w_Hash d ≤ 32 * need_Hash d + 32 := by
  have h0 := sumN_le1 (f := w_I) (fun _ => by simp [w_I]) d.1
  have h1 := sumN_le1 (f := w_B) (fun _ => by simp [w_B]) d.2.1
  simp only [w_Hash, need_Hash]; omega
theorem wt_le_Hash (d : YHash) : wt_Hash d ≤ 32 * need_Hash d + 32 := by
  have h0 := sumN_le1 (f := w_I) (fun _ => by simp [w_I]) d.1
  have h1 := sumN_le1 (f := w_B) (fun _ => by simp [w_B]) d.2.1
  simp only [wt_Hash, need_Hash]; omega
def need_Op (d : YOp) : Nat := d.2.2.2.1.length
def lo_Op (d : YOp) : Prop := d.2.2.2.1.length ≤ 9223372036854775807
def w_Op (d : YOp) : Nat := 1 + 1 + 1 + sumN w_B d.2.2.2.1
def m_Op (d : YOp) (k : Int) : YOp := (k, k + 1, k + 1 + 1, mkL m_B w_B d.2.2.2.1 (k + 1 + 1 + 1), ())
def wt_Op (d : YOp) : Nat := sumN w_B d.2.2.2.1
theorem w_le_Op (d : YOp) : w_Op d ≤ 32 * need_Op d + 32 := by
  have h3 := sumN_le1 (f := w_B) (fun _ => by simp [w_B]) d.2.2.2.1
  simp only [w_Op, need_Op]; omega
theorem wt_le_Op (d : YOp) : wt_Op d ≤ 32 * need_Op d + 32 := by
  have h3 := sumN_le1 (f := w_B) (fun _ => by simp [w_B]) d.2.2.2.1
  simp only [wt_Op, need_Op]; omega
def need_Wire (d : YWire) : Nat := d.2.2.2.2.1.length
def lo_Wire (d : YWire) : Prop := d.2.2.2.2.1.length ≤ 9223372036854775807
def w_Wire (d : YWire) : Nat := 1 + 1 + 1 + 1 + sumN w_B d.2.2.2.2.1
def m_Wire (d : YWire) (k : Int) : YWire := (k, k + 1, k + 1 + 1, k + 1 + 1 + 1, mkL m_B w_B d.2.2.2.2.1 (k + 1 + 1 + 1 + 1), ())
def wt_Wire (d : YWire) : Nat := sumN w_B d.2.2.2.2.1
theorem w_le_Wire (d : YWire) : w_Wire d ≤ 32 * need_Wire d + 32 := by
  have h4 := sumN_le1 (f := w_B) (fun _ => by simp [w_B]) d.2.2.2.2.1
  simp only [w_Wire, need_Wire]; omega
theorem wt_le_Wire (d : YWire) : wt_Wire d ≤ 32 * need_Wire d + 32 := by
  have h4 := sumN_le1 (f := w_B) (fun _ => by simp [w_B]) d.2.2.2.2.1
  simp only [wt_Wire, need_Wire]; omega
theorem sz_ByteS (d : List YB × Unit) (n : Int) (h0 : -1 ≤ n) (h1 : n ≤ 1099511627776) (hl : d.1.length ≤ 9223372036854775807) : V_l_szByteS d (n, ()) = some (szR (d.1.length) n, ()) := by
  unfold V_l_szByteS T_l_szByteS
  simp only [val_br, val_leaf]
  simp (disch := omega) only [w64]
  unfold szR
  rw [br_i]
  by_cases h : (d.1.length : Int) ≤ n
  · simp only [decide_eq_true_eq, if_neg (show ¬ (n - (d.1.length : Int) < 0) by omega), if_pos h]
  · simp only [decide_eq_true_eq, if_pos (show n - (d.1.length : Int) < 0 by omega), if_neg h]
theorem to_ByteS (d : List YB × Unit) (h : d.1.length ≤ 4294967296) : V_l_toByteS d = some d := by
  have e := fun (m : List YB) (hm : m.length = d.1.length) => loop_to (B := B_l_toByteS_3) (m := m) (l := d.1) (ok := fun _ => True) (fun m i x y hx hi hy => by
    unfold B_l_toByteS_3
    simp only [val_br, val_ob, val_leaf, val_chk, val_sm, lt_dec hi, br_t, idx_at hx, idx_at hy, ob_s, Int.toNat_natCast]
    rw [w64 (by omega)]) (fun m => by
    unfold B_l_toByteS_3
    simp only [val_br, val_ob, val_leaf, val_chk, val_sm, ge_dec, br_f]) hm
  unfold V_l_toByteS T_l_toByteS
  simp only [val_br, val_ob, val_leaf, val_chk, val_sm, decide_true]
  rw [dec_t (by omega), dec_t (by omega), chk_t, chk_t, chk_t, e _ (by simp)]
  rfl
theorem eq_ByteS (d : List YB × Unit) (h : d.1.length ≤ 4294967296) : V_l_eqByteS d d = some (true, ()) := by
  have e := loop_eq (B := B_l_eqByteS_4) (l := d.1) (fun i x hx hi => by
    unfold B_l_eqByteS_4
    simp only [val_br, val_ob, val_leaf, val_chk, val_sm, lt_dec hi, br_t, idx_at hx, ob_s, bne_self, br_f]
    rw [w64 (by omega)]) (by
    unfold B_l_eqByteS_4
    simp only [val_br, val_ob, val_leaf, val_chk, val_sm, ge_dec, br_f])
  unfold V_l_eqByteS T_l_eqByteS
  simp only [val_br, val_ob, val_leaf, val_chk, val_sm, bne_self, br_f]
  rw [e]
  rfl
theorem mark_ByteS (d : List YB × Unit) (k : Int) (h0 : 0 ≤ k) (h1 : k + (sumN w_B d.1 : Nat) ≤ 4611686018427387904) : V_l_markByteS d (k, ()) = some ((k + (sumN w_B d.1 : Nat), ()), (mkL m_B w_B d.1 k, ())) := by
  have hl := len_le_sumN (w := w_B) (fun x => by simp only [w_B]; omega) d.1
  have e := loop_mark (B := B_l_markByteS_2) m_B w_B (l := d.1) (fun t k i x ht hx hlen h0 h1 hi => by
    have hit : i < t.length := by omega
    have hk : k + ((w_B x : Nat) : Int) = k + 1 := by simp only [w_B]; all_goals omega
    rw [hk]
    unfold B_l_markByteS_2
    simp (maxSteps := 4000000) only [val_br, val_ob, val_leaf, val_chk, val_sm, lt_dec hit, br_t, idx_at ht, ob_s, Int.toNat_natCast]
    simp only [w_B] at *
    simp (maxSteps := 4000000) (disch := first | omega | (dsimp only; omega) | (simp only [List.length_set]; omega)) only [w64, idx_set, List.set_set, ob_s, Int.toNat_natCast, chk_t, dec_t]
    rfl) (fun t k hlen => by
    unfold B_l_markByteS_2
    exact (val_br _ _ _).trans ((br_ff (by simp [hlen])).trans rfl)) h0 h1
  unfold V_l_markByteS T_l_markByteS
  simp only [val_br, val_ob, val_leaf, val_chk, val_sm]
  rw [e]
  rfl
theorem held_ByteS (d : List YB) (k : Int) (h0 : 0 ≤ k) (h1 : k + (sumN w_B d : Nat) ≤ 4611686018427387904) : V_l_heldByteS (mkL m_B w_B d k, ()) (k, ()) = some (k + (sumN w_B d : Nat), ()) := by
  have hl := len_le_sumN (w := w_B) (fun x => by simp only [w_B]; omega) d
  have e := loop_held (B := B_l_heldByteS_2) m_B w_B (l := d) (k := k) (fun k i x ht hx h0 h1 hi => by
    have hk : k + ((w_B x : Nat) : Int) = k + 1 := by simp only [w_B]; all_goals omega
    rw [hk]
    unfold B_l_heldByteS_2
    simp only [val_br, val_ob, val_leaf, val_chk, val_sm, mkL_len, lt_dec hi, br_t, idx_at ht, ob_s, m_B, bne_self, br_f]
    simp only [w_B] at *
    simp (maxSteps := 4000000) (disch := first | omega | (dsimp only; omega)) only [w64, ob_s, bne_self, beq_self_eq_true, Bool.not_true, br_f, nn_dec, chk_t, dec_t]) (fun k => by
    unfold B_l_heldByteS_2
    simp only [val_br, val_ob, val_leaf, val_chk, val_sm, mkL_len, ge_dec, br_f]) h0 h1
  unfold V_l_heldByteS T_l_heldByteS
  simp only [val_br, val_ob, val_leaf, val_chk, val_sm]
  rw [e]
  rfl
theorem sz_IntS (d : List YI × Unit) (n : Int) (h0 : -1 ≤ n) (h1 : n ≤ 1099511627776) (hl : d.1.length ≤ 9223372036854775807) : V_l_szIntS d (n, ()) = some (szR (d.1.length) n, ()) := by
  unfold V_l_szIntS T_l_szIntS
  simp only [val_br, val_leaf]
  simp (disch := omega) only [w64]
  unfold szR
  rw [br_i]
  by_cases h : (d.1.length : Int) ≤ n
  · simp only [decide_eq_true_eq, if_neg (show ¬ (n - (d.1.length : Int) < 0) by omega), if_pos h]
  · simp only [decide_eq_true_eq, if_pos (show n - (d.1.length : Int) < 0 by omega), if_neg h]
theorem to_IntS (d : List YI × Unit) (h : d.1.length ≤ 4294967296) : V_l_toIntS d = some d := by
  have e := fun (m : List YI) (hm : m.length = d.1.length) => loop_to (B := B_l_toIntS_3) (m := m) (l := d.1) (ok := fun _ => True) (fun m i x y hx hi hy => by
    unfold B_l_toIntS_3
    simp only [val_br, val_ob, val_leaf, val_chk, val_sm, lt_dec hi, br_t, idx_at hx, idx_at hy, ob_s, Int.toNat_natCast]
    rw [w64 (by omega)]) (fun m => by
    unfold B_l_toIntS_3
    simp only [val_br, val_ob, val_leaf, val_chk, val_sm, ge_dec, br_f]) hm
  unfold V_l_toIntS T_l_toIntS
  simp only [val_br, val_ob, val_leaf, val_chk, val_sm, decide_true]
  rw [dec_t (by omega), dec_t (by omega), chk_t, chk_t, chk_t, e _ (by simp)]
  rfl
theorem eq_IntS (d : List YI × Unit) (h : d.1.length ≤ 4294967296) : V_l_eqIntS d d = some (true, ()) := by
  have e := loop_eq (B := B_l_eqIntS_4) (l := d.1) (fun i x hx hi => by
    unfold B_l_eqIntS_4
    simp only [val_br, val_ob, val_leaf, val_chk, val_sm, lt_dec hi, br_t, idx_at hx, ob_s, bne_self, br_f]
    rw [w64 (by omega)]) (by
    unfold B_l_eqIntS_4
    simp only [val_br, val_ob, val_leaf, val_chk, val_sm, ge_dec, br_f])
  unfold V_l_eqIntS T_l_eqIntS
  simp only [val_br, val_ob, val_leaf, val_chk, val_sm, bne_self, br_f]
  rw [e]
  rfl
theorem mark_IntS (d : List YI × Unit) (k : Int) (h0 : 0 ≤ k) (h1 : k + (sumN w_I d.1 : Nat) ≤ 4611686018427387904) : V_l_markIntS d (k, ()) = some ((k + (sumN w_I d.1 : Nat), ()), (mkL m_I w_I d.1 k, ())) := by
  have hl := len_le_sumN (w := w_I) (fun x => by simp only [w_I]; omega) d.1
  have e := loop_mark (B := B_l_markIntS_2) m_I w_I (l := d.1) (fun t k i x ht hx hlen h0 h1 hi => by
    have hit : i < t.length := by omega
    have hk : k + ((w_I x : Nat) : Int) = k + 1 := by simp only [w_I]; all_goals omega
    rw [hk]
    unfold B_l_markIntS_2
    simp (maxSteps := 4000000) only [val_br, val_ob, val_leaf, val_chk, val_sm, lt_dec hit, br_t, idx_at ht, ob_s, Int.toNat_natCast]
    simp only [w_I] at *
    simp (maxSteps := 4000000) (disch := first | omega | (dsimp only; omega) | (simp only [List.length_set]; omega)) only [w64, idx_set, List.set_set, ob_s, Int.toNat_natCast, chk_t, dec_t, mark_ByteS]
    rfl) (fun t k hlen => by
    unfold B_l_markIntS_2
    exact (val_br _ _ _).trans ((br_ff (by simp [hlen])).trans rfl)) h0 h1
  unfold V_l_markIntS T_l_markIntS
  simp only [val_br, val_ob, val_leaf, val_chk, val_sm]
  rw [e]
  rfl
theorem held_IntS (d : List YI) (k : Int) (h0 : 0 ≤ k) (h1 : k + (sumN w_I d : Nat) ≤ 4611686018427387904) : V_l_heldIntS (mkL m_I w_I d k, ()) (k, ()) = some (k + (sumN w_I d : Nat), ()) := by
  have hl := len_le_sumN (w := w_I) (fun x => by simp only [w_I]; omega) d
  have e := loop_held (B := B_l_heldIntS_2) m_I w_I (l := d) (k := k) (fun k i x ht hx h0 h1 hi => by
    have hk : k + ((w_I x : Nat) : Int) = k + 1 := by simp only [w_I]; all_goals omega
    rw [hk]
    unfold B_l_heldIntS_2
    simp only [val_br, val_ob, val_leaf, val_chk, val_sm, mkL_len, lt_dec hi, br_t, idx_at ht, ob_s, m_I, bne_self, br_f]
    simp only [w_I] at *
    simp (maxSteps := 4000000) (disch := first | omega | (dsimp only; omega)) only [w64, ob_s, bne_self, beq_self_eq_true, Bool.not_true, br_f, nn_dec, chk_t, dec_t, held_ByteS]) (fun k => by
    unfold B_l_heldIntS_2
    simp only [val_br, val_ob, val_leaf, val_chk, val_sm, mkL_len, ge_dec, br_f]) h0 h1
  unfold V_l_heldIntS T_l_heldIntS
  simp only [val_br, val_ob, val_leaf, val_chk, val_sm]
  rw [e]
  rfl
theorem sz_Win (d : YWin) (n : Int) (h0 : -1 ≤ n) (h1 : n ≤ 1099511627776) (hl : lo_Win d) : V_l_szWin d (n, ()) = some (szR (need_Win d) n, ()) := by
  unfold lo_Win at hl
  skip
  unfold V_l_szWin T_l_szWin
  simp only [val_br, val_ob, val_leaf, val_chk, val_sm]
  simp (disch := first | omega | (dsimp only; omega) | exact szR_ge _ _ | exact szR_le (by omega) (by omega) | ((repeat' (first | assumption | apply And.intro)); done) | ((first | unfold lo_Win); dsimp only; (repeat' (first | assumption | apply And.intro)); done)) only [sz_ByteS, sz_IntS, ob_s, szR_szR]
  all_goals try simp (disch := first | omega | (simp only [need_Win]; omega)) only [brsz]
  all_goals (first | rfl | (refine congrArg (fun t => some (szR t n, ())) ?_; simp only [need_Win]; omega))
theorem to_Win (d : YWin) (h : need_Win d ≤ 4294967296) : V_l_toWin d = some d := by
  have hn : need_Win d = d.2.1.length := rfl
  unfold V_l_toWin T_l_toWin
  simp only [val_br, val_ob, val_leaf, val_chk, val_sm]
  simp (disch := first | omega | (simp only [need_Win]; omega)) only [to_ByteS, to_IntS, ob_s]
  all_goals rfl
theorem eq_Win (d : YWin) (h : need_Win d ≤ 4294967296) : V_l_eqWin d d = some (true, ()) := by
  have hn : need_Win d = d.2.1.length := rfl
  unfold V_l_eqWin T_l_eqWin
  simp (disch := first | omega | (simp only [need_Win]; omega)) only [val_br, val_ob, val_leaf, val_chk, val_sm, bne_self, beq_self_eq_true, br_f, ob_s, Bool.not_true, eq_ByteS, eq_IntS]
theorem mark_Win (d : YWin) (k : Int) (h0 : 0 ≤ k) (h1 : k + (wt_Win d : Nat) ≤ 4611686018427387904) (hl : need_Win d ≤ 4294967296) : V_l_markWin d (k, ()) = some ((k + (wt_Win d : Nat), ()), (d.1, mkL m_I w_I d.2.1 (k), ())) := by
  have hn : need_Win d = d.2.1.length := rfl
  have hw : wt_Win d = sumN w_I d.2.1 := rfl
  have hk : k + ((wt_Win d : Nat) : Int) = k + (sumN w_I d.2.1 : Nat) := by simp only [wt_Win]; all_goals omega
  rw [hk]
  unfold V_l_markWin T_l_markWin
  simp (maxSteps := 4000000) (disch := first | omega | (dsimp only; omega)) only [val_br, val_ob, val_leaf, val_chk, val_sm, ob_s, mark_ByteS, mark_IntS]
theorem held_Win (d : YWin) (k : Int) (h0 : 0 ≤ k) (h1 : k + (wt_Win d : Nat) ≤ 4611686018427387904) (hl : need_Win d ≤ 4294967296) : V_l_heldWin (d.1, mkL m_I w_I d.2.1 (k), ()) (k, ()) = some (k + (wt_Win d : Nat), ()) := by
  have hn : need_Win d = d.2.1.length := rfl
  have hw : wt_Win d = sumN w_I d.2.1 := rfl
  have hk : k + ((wt_Win d : Nat) : Int) = k + (sumN w_I d.2.1 : Nat) := by simp only [wt_Win]; all_goals omega
  rw [hk]
  unfold V_l_heldWin T_l_heldWin
  simp (maxSteps := 4000000) (disch := first | omega | (dsimp only; omega)) only [val_br, val_ob, val_leaf, val_chk, val_sm, ob_s, br_f, nn_dec, held_ByteS, held_IntS]
theorem heldc_Win (c0 : Int) (c1 : List YI) (k : Int) (h0 : 0 ≤ k) (h1 : k + (wt_Win (c0, c1, ()) : Nat) ≤ 4611686018427387904) (hl : need_Win (c0, c1, ()) ≤ 4294967296) : V_l_heldWin (c0, mkL m_I w_I c1 (k), ()) (k, ()) = some (k + (wt_Win (c0, c1, ()) : Nat), ()) := held_Win (c0, c1, ()) k h0 h1 hl
theorem sz_Ep (d : YEp) (n : Int) (h0 : -1 ≤ n) (h1 : n ≤ 1099511627776) (hl : lo_Ep d) : V_l_szEp d (n, ()) = some (szR (need_Ep d) n, ()) := by
  unfold lo_Ep at hl
  obtain ⟨hl0, hl1⟩ := hl
  unfold V_l_szEp T_l_szEp
  simp only [val_br, val_ob, val_leaf, val_chk, val_sm]
  simp (disch := first | omega | (dsimp only; omega) | exact szR_ge _ _ | exact szR_le (by omega) (by omega) | ((repeat' (first | assumption | apply And.intro)); done) | ((first | unfold lo_Ep | unfold lo_Win); dsimp only; (repeat' (first | assumption | apply And.intro)); done)) only [sz_ByteS, sz_IntS, sz_Win, ob_s, szR_szR]
  all_goals try simp (disch := first | omega | (simp only [need_Ep, need_Win]; omega)) only [brsz]
  all_goals (first | rfl | (refine congrArg (fun t => some (szR t n, ())) ?_; simp only [need_Ep, need_Win]; omega))
theorem to_Ep (d : YEp) (h : need_Ep d ≤ 4294967296) : V_l_toEp d = some d := by
  have hn : need_Ep d = d.2.1.length + d.2.2.2.2.1.length := rfl
  unfold V_l_toEp T_l_toEp
  simp only [val_br, val_ob, val_leaf, val_chk, val_sm]
  simp (disch := first | omega | (simp only [need_Ep, need_Win]; omega)) only [to_ByteS, to_IntS, to_Win, ob_s]
  all_goals rfl
theorem eq_Ep (d : YEp) (h : need_Ep d ≤ 4294967296) : V_l_eqEp d d = some (true, ()) := by
  have hn : need_Ep d = d.2.1.length + d.2.2.2.2.1.length := rfl
  unfold V_l_eqEp T_l_eqEp
  simp (disch := first | omega | (simp only [need_Ep, need_Win]; omega)) only [val_br, val_ob, val_leaf, val_chk, val_sm, bne_self, beq_self_eq_true, br_f, ob_s, Bool.not_true, eq_ByteS, eq_IntS, eq_Win]
theorem mark_Ep (d : YEp) (k : Int) (h0 : 0 ≤ k) (h1 : k + (wt_Ep d : Nat) ≤ 4611686018427387904) (hl : need_Ep d ≤ 4294967296) : V_l_markEp d (k, ()) = some ((k + (wt_Ep d : Nat), ()), (d.1, mkL m_B w_B d.2.1 (k), d.2.2.1, d.2.2.2.1, mkL m_I w_I d.2.2.2.2.1 (k + (sumN w_B d.2.1 : Nat)), ())) := by
  have hn : need_Ep d = d.2.1.length + d.2.2.2.2.1.length := rfl
  have hw : wt_Ep d = sumN w_B d.2.1 + sumN w_I d.2.2.2.2.1 := rfl
  have hk : k + ((wt_Ep d : Nat) : Int) = k + (sumN w_B d.2.1 : Nat) + (sumN w_I d.2.2.2.2.1 : Nat) := by simp only [wt_Ep]; all_goals omega
  rw [hk]
  unfold V_l_markEp T_l_markEp
  simp (maxSteps := 4000000) (disch := first | omega | (dsimp only; omega) | (simp only [need_Win, wt_Win, Int.natCast_add]; omega)) only [val_br, val_ob, val_leaf, val_chk, val_sm, ob_s, mark_ByteS, mark_IntS, mark_Win, wt_Win, Int.natCast_add, ← Int.add_assoc]
theorem held_Ep (d : YEp) (k : Int) (h0 : 0 ≤ k) (h1 : k + (wt_Ep d : Nat) ≤ 4611686018427387904) (hl : need_Ep d ≤ 4294967296) : V_l_heldEp (d.1, mkL m_B w_B d.2.1 (k), d.2.2.1, d.2.2.2.1, mkL m_I w_I d.2.2.2.2.1 (k + (sumN w_B d.2.1 : Nat)), ()) (k, ()) = some (k + (wt_Ep d : Nat), ()) := by
  have hn : need_Ep d = d.2.1.length + d.2.2.2.2.1.length := rfl
  have hw : wt_Ep d = sumN w_B d.2.1 + sumN w_I d.2.2.2.2.1 := rfl
  have hk : k + ((wt_Ep d : Nat) : Int) = k + (sumN w_B d.2.1 : Nat) + (sumN w_I d.2.2.2.2.1 : Nat) := by simp only [wt_Ep]; all_goals omega
  rw [hk]
  unfold V_l_heldEp T_l_heldEp
  simp (maxSteps := 4000000) (disch := first | omega | (dsimp only; omega) | (simp only [need_Win, wt_Win, Int.natCast_add]; omega)) only [val_br, val_ob, val_leaf, val_chk, val_sm, ob_s, br_f, nn_dec, held_ByteS, held_IntS, held_Win, wt_Win, Int.natCast_add, ← Int.add_assoc, heldc_Win]
theorem heldc_Ep (c0 : Int) (c1 : List YB) (c2 : Int) (c3 : Int) (c4 : List YI) (k : Int) (h0 : 0 ≤ k) (h1 : k + (wt_Ep (c0, c1, c2, c3, c4, ()) : Nat) ≤ 4611686018427387904) (hl : need_Ep (c0, c1, c2, c3, c4, ()) ≤ 4294967296) : V_l_heldEp (c0, mkL m_B w_B c1 (k), c2, c3, mkL m_I w_I c4 (k + (sumN w_B c1 : Nat)), ()) (k, ()) = some (k + (wt_Ep (c0, c1, c2, c3, c4, ()) : Nat), ()) := held_Ep (c0, c1, c2, c3, c4, ()) k h0 h1 hl
theorem sz_Chan (d : YChan) (n : Int) (h0 : -1 ≤ n) (h1 : n ≤ 1099511627776) (hl : lo_Chan d) : V_l_szChan d (n, ()) = some (szR (need_Chan d) n, ()) := by
  unfold lo_Chan at hl
  obtain ⟨hl0, hl1, hl2, hl3, hl4, hl5⟩ := hl
  unfold V_l_szChan T_l_szChan
  simp only [val_br, val_ob, val_leaf, val_chk, val_sm]
  simp (disch := first | omega | (dsimp only; omega) | exact szR_ge _ _ | exact szR_le (by omega) (by omega) | ((repeat' (first | assumption | apply And.intro)); done) | ((first | unfold lo_Chan | unfold lo_Win | unfold lo_Ep); dsimp only; (repeat' (first | assumption | apply And.intro)); done)) only [sz_ByteS, sz_IntS, sz_Win, sz_Ep, ob_s, szR_szR]
  all_goals try simp (disch := first | omega | (simp only [need_Chan, need_Win, need_Ep]; omega)) only [brsz]
  all_goals (first | rfl | (refine congrArg (fun t => some (szR t n, ())) ?_; simp only [need_Chan, need_Win, need_Ep]; omega))
theorem to_Chan (d : YChan) (h : need_Chan d ≤ 4294967296) : V_l_toChan d = some d := by
  have hn : need_Chan d = d.2.1.length + d.2.2.2.1.length + d.2.2.2.2.2.2.1.length + d.2.2.2.2.2.2.2.2.1.length + d.2.2.2.2.2.2.2.2.2.2.2.1.length + d.2.2.2.2.2.2.2.2.2.2.2.2.2.2.1.length := rfl
  unfold V_l_toChan T_l_toChan
  simp only [val_br, val_ob, val_leaf, val_chk, val_sm]
  simp (disch := first | omega | (simp only [need_Chan, need_Win, need_Ep]; omega)) only [to_ByteS, to_IntS, to_Win, to_Ep, ob_s]
  all_goals rfl
theorem eq_Chan (d : YChan) (h : need_Chan d ≤ 4294967296) : V_l_eqChan d d = some (true, ()) := by
  have hn : need_Chan d = d.2.1.length + d.2.2.2.1.length + d.2.2.2.2.2.2.1.length + d.2.2.2.2.2.2.2.2.1.length + d.2.2.2.2.2.2.2.2.2.2.2.1.length + d.2.2.2.2.2.2.2.2.2.2.2.2.2.2.1.length := rfl
  unfold V_l_eqChan T_l_eqChan
  simp (disch := first | omega | (simp only [need_Chan, need_Win, need_Ep]; omega)) only [val_br, val_ob, val_leaf, val_chk, val_sm, bne_self, beq_self_eq_true, br_f, ob_s, Bool.not_true, eq_ByteS, eq_IntS, eq_Win, eq_Ep]
theorem mark_Chan (d : YChan) (k : Int) (h0 : 0 ≤ k) (h1 : k + (wt_Chan d : Nat) ≤ 4611686018427387904) (hl : need_Chan d ≤ 4294967296) : V_l_markChan d (k, ()) = some ((k + (wt_Chan d : Nat), ()), (d.1, mkL m_B w_B d.2.1 (k), d.2.2.1, mkL m_B w_B d.2.2.2.1 (k + (sumN w_B d.2.1 : Nat)), d.2.2.2.2.1, d.2.2.2.2.2.1, mkL m_I w_I d.2.2.2.2.2.2.1 (k + (sumN w_B d.2.1 : Nat) + (sumN w_B d.2.2.2.1 : Nat)), d.2.2.2.2.2.2.2.1, mkL m_B w_B d.2.2.2.2.2.2.2.2.1 (k + (sumN w_B d.2.1 : Nat) + (sumN w_B d.2.2.2.1 : Nat) + (sumN w_I d.2.2.2.2.2.2.1 : Nat)), d.2.2.2.2.2.2.2.2.2.1, d.2.2.2.2.2.2.2.2.2.2.1, mkL m_I w_I d.2.2.2.2.2.2.2.2.2.2.2.1 (k + (sumN w_B d.2.1 : Nat) + (sumN w_B d.2.2.2.1 : Nat) + (sumN w_I d.2.2.2.2.2.2.1 : Nat) + (sumN w_B d.2.2.2.2.2.2.2.2.1 : Nat)), d.2.2.2.2.2.2.2.2.2.2.2.2.1, d.2.2.2.2.2.2.2.2.2.2.2.2.2.1, mkL m_B w_B d.2.2.2.2.2.2.2.2.2.2.2.2.2.2.1 (k + (sumN w_B d.2.1 : Nat) + (sumN w_B d.2.2.2.1 : Nat) + (sumN w_I d.2.2.2.2.2.2.1 : Nat) + (sumN w_B d.2.2.2.2.2.2.2.2.1 : Nat) + (sumN w_I d.2.2.2.2.2.2.2.2.2.2.2.1 : Nat)), ())) := by
  have hn : need_Chan d = d.2.1.length + d.2.2.2.1.length + d.2.2.2.2.2.2.1.length + d.2.2.2.2.2.2.2.2.1.length + d.2.2.2.2.2.2.2.2.2.2.2.1.length + d.2.2.2.2.2.2.2.2.2.2.2.2.2.2.1.length := rfl
  have hw : wt_Chan d = sumN w_B d.2.1 + sumN w_B d.2.2.2.1 + sumN w_I d.2.2.2.2.2.2.1 + sumN w_B d.2.2.2.2.2.2.2.2.1 + sumN w_I d.2.2.2.2.2.2.2.2.2.2.2.1 + sumN w_B d.2.2.2.2.2.2.2.2.2.2.2.2.2.2.1 := rfl
  have hk : k + ((wt_Chan d : Nat) : Int) = k + (sumN w_B d.2.1 : Nat) + (sumN w_B d.2.2.2.1 : Nat) + (sumN w_I d.2.2.2.2.2.2.1 : Nat) + (sumN w_B d.2.2.2.2.2.2.2.2.1 : Nat) + (sumN w_I d.2.2.2.2.2.2.2.2.2.2.2.1 : Nat) + (sumN w_B d.2.2.2.2.2.2.2.2.2.2.2.2.2.2.1 : Nat) := by simp only [wt_Chan]; all_goals omega
  rw [hk]
  unfold V_l_markChan T_l_markChan
  simp (maxSteps := 4000000) (disch := first | omega | (dsimp only; omega) | (simp only [need_Ep, wt_Ep, Int.natCast_add]; omega)) only [val_br, val_ob, val_leaf, val_chk, val_sm, ob_s, mark_ByteS, mark_IntS, mark_Win, mark_Ep, wt_Ep, Int.natCast_add, ← Int.add_assoc]
theorem held_Chan (d : YChan) (k : Int) (h0 : 0 ≤ k) (h1 : k + (wt_Chan d : Nat) ≤ 4611686018427387904) (hl : need_Chan d ≤ 4294967296) : V_l_heldChan (d.1, mkL m_B w_B d.2.1 (k), d.2.2.1, mkL m_B w_B d.2.2.2.1 (k + (sumN w_B d.2.1 : Nat)), d.2.2.2.2.1, d.2.2.2.2.2.1, mkL m_I w_I d.2.2.2.2.2.2.1 (k + (sumN w_B d.2.1 : Nat) + (sumN w_B d.2.2.2.1 : Nat)), d.2.2.2.2.2.2.2.1, mkL m_B w_B d.2.2.2.2.2.2.2.2.1 (k + (sumN w_B d.2.1 : Nat) + (sumN w_B d.2.2.2.1 : Nat) + (sumN w_I d.2.2.2.2.2.2.1 : Nat)), d.2.2.2.2.2.2.2.2.2.1, d.2.2.2.2.2.2.2.2.2.2.1, mkL m_I w_I d.2.2.2.2.2.2.2.2.2.2.2.1 (k + (sumN w_B d.2.1 : Nat) + (sumN w_B d.2.2.2.1 : Nat) + (sumN w_I d.2.2.2.2.2.2.1 : Nat) + (sumN w_B d.2.2.2.2.2.2.2.2.1 : Nat)), d.2.2.2.2.2.2.2.2.2.2.2.2.1, d.2.2.2.2.2.2.2.2.2.2.2.2.2.1, mkL m_B w_B d.2.2.2.2.2.2.2.2.2.2.2.2.2.2.1 (k + (sumN w_B d.2.1 : Nat) + (sumN w_B d.2.2.2.1 : Nat) + (sumN w_I d.2.2.2.2.2.2.1 : Nat) + (sumN w_B d.2.2.2.2.2.2.2.2.1 : Nat) + (sumN w_I d.2.2.2.2.2.2.2.2.2.2.2.1 : Nat)), ()) (k, ()) = some (k + (wt_Chan d : Nat), ()) := by
  have hn : need_Chan d = d.2.1.length + d.2.2.2.1.length + d.2.2.2.2.2.2.1.length + d.2.2.2.2.2.2.2.2.1.length + d.2.2.2.2.2.2.2.2.2.2.2.1.length + d.2.2.2.2.2.2.2.2.2.2.2.2.2.2.1.length := rfl
  have hw : wt_Chan d = sumN w_B d.2.1 + sumN w_B d.2.2.2.1 + sumN w_I d.2.2.2.2.2.2.1 + sumN w_B d.2.2.2.2.2.2.2.2.1 + sumN w_I d.2.2.2.2.2.2.2.2.2.2.2.1 + sumN w_B d.2.2.2.2.2.2.2.2.2.2.2.2.2.2.1 := rfl
  have hk : k + ((wt_Chan d : Nat) : Int) = k + (sumN w_B d.2.1 : Nat) + (sumN w_B d.2.2.2.1 : Nat) + (sumN w_I d.2.2.2.2.2.2.1 : Nat) + (sumN w_B d.2.2.2.2.2.2.2.2.1 : Nat) + (sumN w_I d.2.2.2.2.2.2.2.2.2.2.2.1 : Nat) + (sumN w_B d.2.2.2.2.2.2.2.2.2.2.2.2.2.2.1 : Nat) := by simp only [wt_Chan]; all_goals omega
  rw [hk]
  unfold V_l_heldChan T_l_heldChan
  simp (maxSteps := 4000000) (disch := first | omega | (dsimp only; omega) | (simp only [need_Ep, wt_Ep, Int.natCast_add]; omega)) only [val_br, val_ob, val_leaf, val_chk, val_sm, ob_s, br_f, nn_dec, held_ByteS, held_IntS, held_Win, held_Ep, wt_Ep, Int.natCast_add, ← Int.add_assoc, heldc_Ep]
theorem heldc_Chan (c0 : Int) (c1 : List YB) (c2 : Int) (c3 : List YB) (c4 : Int) (c5 : Int) (c6 : List YI) (c7 : Int) (c8 : List YB) (c9 : Int) (c10 : Int) (c11 : List YI) (c12 : Bool) (c13 : Int) (c14 : List YB) (k : Int) (h0 : 0 ≤ k) (h1 : k + (wt_Chan (c0, c1, c2, c3, c4, c5, c6, c7, c8, c9, c10, c11, c12, c13, c14, ()) : Nat) ≤ 4611686018427387904) (hl : need_Chan (c0, c1, c2, c3, c4, c5, c6, c7, c8, c9, c10, c11, c12, c13, c14, ()) ≤ 4294967296) : V_l_heldChan (c0, mkL m_B w_B c1 (k), c2, mkL m_B w_B c3 (k + (sumN w_B c1 : Nat)), c4, c5, mkL m_I w_I c6 (k + (sumN w_B c1 : Nat) + (sumN w_B c3 : Nat)), c7, mkL m_B w_B c8 (k + (sumN w_B c1 : Nat) + (sumN w_B c3 : Nat) + (sumN w_I c6 : Nat)), c9, c10, mkL m_I w_I c11 (k + (sumN w_B c1 : Nat) + (sumN w_B c3 : Nat) + (sumN w_I c6 : Nat) + (sumN w_B c8 : Nat)), c12, c13, mkL m_B w_B c14 (k + (sumN w_B c1 : Nat) + (sumN w_B c3 : Nat) + (sumN w_I c6 : Nat) + (sumN w_B c8 : Nat) + (sumN w_I c11 : Nat)), ()) (k, ()) = some (k + (wt_Chan (c0, c1, c2, c3, c4, c5, c6, c7, c8, c9, c10, c11, c12, c13, c14, ()) : Nat), ()) := held_Chan (c0, c1, c2, c3, c4, c5, c6, c7, c8, c9, c10, c11, c12, c13, c14, ()) k h0 h1 hl
theorem to_Addr (d : YAddr) : V_l_toAddr d = some d := by
  have hn : need_Addr d = 0 := rfl
  unfold V_l_toAddr T_l_toAddr
  simp only [val_br, val_ob, val_leaf, val_chk, val_sm]
  skip
  all_goals rfl
theorem eq_Addr (d : YAddr) : V_l_eqAddr d d = some (true, ()) := by
  have hn : need_Addr d = 0 := rfl
  unfold V_l_eqAddr T_l_eqAddr
  simp (disch := first | omega | (simp only [need_Addr, need_Win, need_Ep, need_Chan]; omega)) only [val_br, val_ob, val_leaf, val_chk, val_sm, bne_self, beq_self_eq_true, br_f, ob_s, Bool.not_true, eq_ByteS, eq_IntS, eq_Win, eq_Ep, eq_Chan]
theorem sz_Cand (d : YCand) (n : Int) (h0 : -1 ≤ n) (h1 : n ≤ 1099511627776) (hl : lo_Cand d) : V_l_szCand d (n, ()) = some (szR (need_Cand d) n, ()) := by
  unfold lo_Cand at hl
  skip
  unfold V_l_szCand T_l_szCand
  simp only [val_br, val_ob, val_leaf, val_chk, val_sm]
  simp (disch := first | omega | (dsimp only; omega) | exact szR_ge _ _ | exact szR_le (by omega) (by omega) | ((repeat' (first | assumption | apply And.intro)); done) | ((first | unfold lo_Cand | unfold lo_Win | unfold lo_Ep | unfold lo_Chan | unfold lo_Addr); dsimp only; (repeat' (first | assumption | apply And.intro)); done)) only [sz_ByteS, sz_IntS, sz_Win, sz_Ep, sz_Chan, ob_s, szR_szR]
  all_goals try simp (disch := first | omega | (simp only [need_Cand, need_Win, need_Ep, need_Chan, need_Addr]; omega)) only [brsz]
  all_goals (first | rfl | (refine congrArg (fun t => some (szR t n, ())) ?_; simp only [need_Cand, need_Win, need_Ep, need_Chan, need_Addr]; omega))
theorem to_Cand (d : YCand) (h : need_Cand d ≤ 4294967296) : V_l_toCand d = some d := by
  have hn : need_Cand d = d.2.2.1.length := rfl
  unfold V_l_toCand T_l_toCand
  simp only [val_br, val_ob, val_leaf, val_chk, val_sm]
  simp (disch := first | omega | (simp only [need_Cand, need_Win, need_Ep, need_Chan, need_Addr]; omega)) only [to_ByteS, to_IntS, to_Win, to_Ep, to_Chan, to_Addr, ob_s]
  all_goals rfl
theorem eq_Cand (d : YCand) (h : need_Cand d ≤ 4294967296) : V_l_eqCand d d = some (true, ()) := by
  have hn : need_Cand d = d.2.2.1.length := rfl
  unfold V_l_eqCand T_l_eqCand
  simp (disch := first | omega | (simp only [need_Cand, need_Win, need_Ep, need_Chan, need_Addr]; omega)) only [val_br, val_ob, val_leaf, val_chk, val_sm, bne_self, beq_self_eq_true, br_f, ob_s, Bool.not_true, eq_ByteS, eq_IntS, eq_Win, eq_Ep, eq_Chan, eq_Addr]
theorem sz_CandS (d : List YCand × Unit) (n : Int) (h0 : -1 ≤ n) (h1 : n ≤ 1099511627776) (hl : d.1.length ≤ 9223372036854775807 ∧ (∀ (i : Nat) x, d.1[i]? = some x → lo_Cand x)) : V_l_szCandS d (n, ()) = some (szR (d.1.length + sumN need_Cand d.1) n, ()) := by
  obtain ⟨hl1, hl2⟩ := hl
  unfold V_l_szCandS T_l_szCandS
  simp only [val_br, val_ob, val_leaf, val_chk, val_sm]
  rw [w64 (by omega)]
  by_cases h : (d.1.length : Int) ≤ n
  · rw [dec_f (by omega), br_f, loop_sz need_Cand (l := d.1) (fun n' i x hx hi h0' h1' => by
        have hlx := hl2 i x hx
        unfold B_l_szCandS_5
        simp only [val_br, val_ob, val_leaf, val_chk, val_sm, lt_dec hi, br_t, idx_at hx, ob_s]
        rw [sz_Cand x n' h0' h1' (by exact hlx), ob_s]
        rw [w64 (by omega)]) (fun n' => by
        unfold B_l_szCandS_5
        simp only [val_br, val_ob, val_leaf, val_chk, val_sm, ge_dec, br_f]) (by omega) (by omega), ← szR_szR]
    unfold szR
    rw [if_pos h]
  · rw [dec_t (by omega), br_t]
    unfold szR
    rw [if_neg (by omega)]
theorem to_CandS (d : List YCand × Unit) (h : d.1.length + sumN need_Cand d.1 ≤ 4294967296) : V_l_toCandS d = some d := by
  have e := fun (m : List YCand) (hm : m.length = d.1.length) => loop_to (B := B_l_toCandS_3) (m := m) (l := d.1) (ok := fun _ => True) (fun m i x y hx hi hy => by
    unfold B_l_toCandS_3
    simp only [val_br, val_ob, val_leaf, val_chk, val_sm, lt_dec hi, br_t, idx_at hx, idx_at hy, ob_s, Int.toNat_natCast]
    have hx2 := sumN_at (f := need_Cand) hx
    rw [to_Cand x (by first | omega | (simp only [need_Cand] at *; omega)), ob_s]
    try simp only [idx_at hy, ob_s, Int.toNat_natCast]
    rw [w64 (by omega)]) (fun m => by
    unfold B_l_toCandS_3
    simp only [val_br, val_ob, val_leaf, val_chk, val_sm, ge_dec, br_f]) hm
  unfold V_l_toCandS T_l_toCandS
  simp only [val_br, val_ob, val_leaf, val_chk, val_sm, decide_true]
  rw [dec_t (by omega), dec_t (by omega), chk_t, chk_t, chk_t, e _ (by simp)]
  rfl
theorem eq_CandS (d : List YCand × Unit) (h : d.1.length + sumN need_Cand d.1 ≤ 4294967296) : V_l_eqCandS d d = some (true, ()) := by
  have e := loop_eq (B := B_l_eqCandS_4) (l := d.1) (fun i x hx hi => by
    unfold B_l_eqCandS_4
    simp only [val_br, val_ob, val_leaf, val_chk, val_sm, lt_dec hi, br_t, idx_at hx, ob_s, bne_self, br_f]
    have hx2 := sumN_at (f := need_Cand) hx
    rw [eq_Cand x (by first | omega | (simp only [need_Cand] at *; omega)), ob_s]
    try simp only [Bool.not_true, br_f]
    rw [w64 (by omega)]) (by
    unfold B_l_eqCandS_4
    simp only [val_br, val_ob, val_leaf, val_chk, val_sm, ge_dec, br_f])
  unfold V_l_eqCandS T_l_eqCandS
  simp only [val_br, val_ob, val_leaf, val_chk, val_sm, bne_self, br_f]
  rw [e]
  rfl
theorem mark_CandS (d : List YCand × Unit) (k : Int) (h0 : 0 ≤ k) (h1 : k + (sumN w_Cand d.1 : Nat) ≤ 4611686018427387904) : V_l_markCandS d (k, ()) = some ((k + (sumN w_Cand d.1 : Nat), ()), (mkL m_Cand w_Cand d.1 k, ())) := by
  have hl := len_le_sumN (w := w_Cand) (fun x => by simp only [w_Cand]; omega) d.1
  have e := loop_mark (B := B_l_markCandS_2) m_Cand w_Cand (l := d.1) (fun t k i x ht hx hlen h0 h1 hi => by
    have hit : i < t.length := by omega
    have hw : w_Cand x = 1 + 1 + sumN w_B x.2.2.1 + 1 := rfl
    have hk : k + ((w_Cand x : Nat) : Int) = k + 1 + 1 + (sumN w_B x.2.2.1 : Nat) + 1 := by simp only [w_Cand]; all_goals omega
    rw [hk]
    unfold B_l_markCandS_2
    simp (maxSteps := 4000000) only [val_br, val_ob, val_leaf, val_chk, val_sm, lt_dec hit, br_t, idx_at ht, ob_s, Int.toNat_natCast]
    simp (maxSteps := 4000000) (disch := first | omega | (dsimp only; omega) | (simp only [List.length_set]; omega)) only [w64, idx_set, List.set_set, ob_s, Int.toNat_natCast, chk_t, dec_t, mark_ByteS, mark_IntS, mark_Win, mark_Ep, mark_Chan]
    rfl) (fun t k hlen => by
    unfold B_l_markCandS_2
    exact (val_br _ _ _).trans ((br_ff (by simp [hlen])).trans rfl)) h0 h1
  unfold V_l_markCandS T_l_markCandS
  simp only [val_br, val_ob, val_leaf, val_chk, val_sm]
  rw [e]
  rfl
theorem held_CandS (d : List YCand) (k : Int) (h0 : 0 ≤ k) (h1 : k + (sumN w_Cand d : Nat) ≤ 4611686018427387904) : V_l_heldCandS (mkL m_Cand w_Cand d k, ()) (k, ()) = some (k + (sumN w_Cand d : Nat), ()) := by
  have hl := len_le_sumN (w := w_Cand) (fun x => by simp only [w_Cand]; omega) d
  have e := loop_held (B := B_l_heldCandS_2) m_Cand w_Cand (l := d) (k := k) (fun k i x ht hx h0 h1 hi => by
    have hk : k + ((w_Cand x : Nat) : Int) = k + 1 + 1 + (sumN w_B x.2.2.1 : Nat) + 1 := by simp only [w_Cand]; all_goals omega
    have hw : w_Cand x = 1 + 1 + sumN w_B x.2.2.1 + 1 := rfl
    rw [hk]
    unfold B_l_heldCandS_2
    simp only [val_br, val_ob, val_leaf, val_chk, val_sm, mkL_len, lt_dec hi, br_t, idx_at ht, ob_s, m_Cand, bne_self, br_f]
    simp (maxSteps := 4000000) (disch := first | omega | (dsimp only; omega)) only [w64, ob_s, bne_self, beq_self_eq_true, Bool.not_true, br_f, nn_dec, chk_t, dec_t, held_ByteS, held_IntS, held_Win, held_Ep, held_Chan]) (fun k => by
    unfold B_l_heldCandS_2
    simp only [val_br, val_ob, val_leaf, val_chk, val_sm, mkL_len, ge_dec, br_f]) h0 h1
  unfold V_l_heldCandS T_l_heldCandS
  simp only [val_br, val_ob, val_leaf, val_chk, val_sm]
  rw [e]
  rfl
theorem sz_Paths (d : YPaths) (n : Int) (h0 : -1 ≤ n) (h1 : n ≤ 1099511627776) (hl : lo_Paths d) : V_l_szPaths d (n, ()) = some (szR (need_Paths d) n, ()) := by
  unfold lo_Paths at hl
  obtain ⟨hl0, hl1⟩ := hl
  unfold V_l_szPaths T_l_szPaths
  simp only [val_br, val_ob, val_leaf, val_chk, val_sm]
  simp (disch := first | omega | (dsimp only; omega) | exact szR_ge _ _ | exact szR_le (by omega) (by omega) | ((repeat' (first | assumption | apply And.intro)); done) | ((first | unfold lo_Paths | unfold lo_Win | unfold lo_Ep | unfold lo_Chan | unfold lo_Addr | unfold lo_Cand); dsimp only; (repeat' (first | assumption | apply And.intro)); done)) only [sz_ByteS, sz_IntS, sz_Win, sz_Ep, sz_Chan, sz_Cand, sz_CandS, ob_s, szR_szR]
  all_goals try simp (disch := first | omega | (simp only [need_Paths, need_Win, need_Ep, need_Chan, need_Addr, need_Cand]; omega)) only [brsz]
  all_goals (first | rfl | (refine congrArg (fun t => some (szR t n, ())) ?_; simp only [need_Paths, need_Win, need_Ep, need_Chan, need_Addr, need_Cand]; omega))
theorem to_Paths (d : YPaths) (h : need_Paths d ≤ 4294967296) : V_l_toPaths d = some d := by
  have hn : need_Paths d = d.2.2.1.length + sumN need_Cand d.2.2.1 := rfl
  unfold V_l_toPaths T_l_toPaths
  simp only [val_br, val_ob, val_leaf, val_chk, val_sm]
  simp (disch := first | omega | (simp only [need_Paths, need_Win, need_Ep, need_Chan, need_Addr, need_Cand]; omega)) only [to_ByteS, to_IntS, to_Win, to_Ep, to_Chan, to_Addr, to_Cand, to_CandS, ob_s]
  all_goals rfl
theorem eq_Paths (d : YPaths) (h : need_Paths d ≤ 4294967296) : V_l_eqPaths d d = some (true, ()) := by
  have hn : need_Paths d = d.2.2.1.length + sumN need_Cand d.2.2.1 := rfl
  unfold V_l_eqPaths T_l_eqPaths
  simp (disch := first | omega | (simp only [need_Paths, need_Win, need_Ep, need_Chan, need_Addr, need_Cand]; omega)) only [val_br, val_ob, val_leaf, val_chk, val_sm, bne_self, beq_self_eq_true, br_f, ob_s, Bool.not_true, eq_ByteS, eq_IntS, eq_Win, eq_Ep, eq_Chan, eq_Addr, eq_Cand, eq_CandS]
theorem mark_Paths (d : YPaths) (k : Int) (h0 : 0 ≤ k) (h1 : k + (wt_Paths d : Nat) ≤ 4611686018427387904) (hl : need_Paths d ≤ 4294967296) : V_l_markPaths d (k, ()) = some ((k + (wt_Paths d : Nat), ()), (d.1, d.2.1, mkL m_Cand w_Cand d.2.2.1 (k), ())) := by
  have hn : need_Paths d = d.2.2.1.length + sumN need_Cand d.2.2.1 := rfl
  have hw : wt_Paths d = sumN w_Cand d.2.2.1 := rfl
  have hk : k + ((wt_Paths d : Nat) : Int) = k + (sumN w_Cand d.2.2.1 : Nat) := by simp only [wt_Paths]; all_goals omega
  rw [hk]
  unfold V_l_markPaths T_l_markPaths
  simp (maxSteps := 4000000) (disch := first | omega | (dsimp only; omega)) only [val_br, val_ob, val_leaf, val_chk, val_sm, ob_s, mark_ByteS, mark_IntS, mark_Win, mark_Ep, mark_Chan, mark_CandS]
theorem held_Paths (d : YPaths) (k : Int) (h0 : 0 ≤ k) (h1 : k + (wt_Paths d : Nat) ≤ 4611686018427387904) (hl : need_Paths d ≤ 4294967296) : V_l_heldPaths (d.1, d.2.1, mkL m_Cand w_Cand d.2.2.1 (k), ()) (k, ()) = some (k + (wt_Paths d : Nat), ()) := by
  have hn : need_Paths d = d.2.2.1.length + sumN need_Cand d.2.2.1 := rfl
  have hw : wt_Paths d = sumN w_Cand d.2.2.1 := rfl
  have hk : k + ((wt_Paths d : Nat) : Int) = k + (sumN w_Cand d.2.2.1 : Nat) := by simp only [wt_Paths]; all_goals omega
  rw [hk]
  unfold V_l_heldPaths T_l_heldPaths
  simp (maxSteps := 4000000) (disch := first | omega | (dsimp only; omega)) only [val_br, val_ob, val_leaf, val_chk, val_sm, ob_s, br_f, nn_dec, held_ByteS, held_IntS, held_Win, held_Ep, held_Chan, held_CandS]
theorem heldc_Paths (c0 : Int) (c1 : Int) (c2 : List YCand) (k : Int) (h0 : 0 ≤ k) (h1 : k + (wt_Paths (c0, c1, c2, ()) : Nat) ≤ 4611686018427387904) (hl : need_Paths (c0, c1, c2, ()) ≤ 4294967296) : V_l_heldPaths (c0, c1, mkL m_Cand w_Cand c2 (k), ()) (k, ()) = some (k + (wt_Paths (c0, c1, c2, ()) : Nat), ()) := held_Paths (c0, c1, c2, ()) k h0 h1 hl
theorem sz_Sess (d : YSess) (n : Int) (h0 : -1 ≤ n) (h1 : n ≤ 1099511627776) (hl : lo_Sess d) : V_l_szSess d (n, ()) = some (szR (need_Sess d) n, ()) := by
  unfold lo_Sess at hl
  obtain ⟨hl0, hl1, hl2, hl3, hl4, hl5, hl6, hl7, hl8, hl9⟩ := hl
  unfold V_l_szSess T_l_szSess
  simp only [val_br, val_ob, val_leaf, val_chk, val_sm]
  simp (disch := first | omega | (dsimp only; omega) | exact szR_ge _ _ | exact szR_le (by omega) (by omega) | ((repeat' (first | assumption | apply And.intro)); done) | ((first | unfold lo_Sess | unfold lo_Win | unfold lo_Ep | unfold lo_Chan | unfold lo_Addr | unfold lo_Cand | unfold lo_Paths); dsimp only; (repeat' (first | assumption | apply And.intro)); done)) only [sz_ByteS, sz_IntS, sz_Win, sz_Ep, sz_Chan, sz_Cand, sz_CandS, sz_Paths, ob_s, szR_szR]
  all_goals try simp (disch := first | omega | (simp only [need_Sess, need_Win, need_Ep, need_Chan, need_Addr, need_Cand, need_Paths]; omega)) only [brsz]
  all_goals (first | rfl | (refine congrArg (fun t => some (szR t n, ())) ?_; simp only [need_Sess, need_Win, need_Ep, need_Chan, need_Addr, need_Cand, need_Paths]; omega))
theorem to_Sess (d : YSess) (h : need_Sess d ≤ 4294967296) : V_l_toSess d = some d := by
  have hn : need_Sess d = d.2.1.length + d.2.2.1.length + d.2.2.2.2.1.length + d.2.2.2.2.2.2.1.length + d.2.2.2.2.2.2.2.2.2.1.length + d.2.2.2.2.2.2.2.2.2.2.2.1.length + d.2.2.2.2.2.2.2.2.2.2.2.2.2.2.1.length + d.2.2.2.2.2.2.2.2.2.2.2.2.2.2.2.2.2.1.length + d.2.2.2.2.2.2.2.2.2.2.2.2.2.2.2.2.2.2.2.2.1.length + sumN need_Cand d.2.2.2.2.2.2.2.2.2.2.2.2.2.2.2.2.2.2.2.2.1 := rfl
  unfold V_l_toSess T_l_toSess
  simp only [val_br, val_ob, val_leaf, val_chk, val_sm]
  simp (disch := first | omega | (simp only [need_Sess, need_Win, need_Ep, need_Chan, need_Addr, need_Cand, need_Paths]; omega)) only [to_ByteS, to_IntS, to_Win, to_Ep, to_Chan, to_Addr, to_Cand, to_CandS, to_Paths, ob_s]
  all_goals rfl
theorem eq_Sess (d : YSess) (h : need_Sess d ≤ 4294967296) : V_l_eqSess d d = some (true, ()) := by
  have hn : need_Sess d = d.2.1.length + d.2.2.1.length + d.2.2.2.2.1.length + d.2.2.2.2.2.2.1.length + d.2.2.2.2.2.2.2.2.2.1.length + d.2.2.2.2.2.2.2.2.2.2.2.1.length + d.2.2.2.2.2.2.2.2.2.2.2.2.2.2.1.length + d.2.2.2.2.2.2.2.2.2.2.2.2.2.2.2.2.2.1.length + d.2.2.2.2.2.2.2.2.2.2.2.2.2.2.2.2.2.2.2.2.1.length + sumN need_Cand d.2.2.2.2.2.2.2.2.2.2.2.2.2.2.2.2.2.2.2.2.1 := rfl
  unfold V_l_eqSess T_l_eqSess
  simp (disch := first | omega | (simp only [need_Sess, need_Win, need_Ep, need_Chan, need_Addr, need_Cand, need_Paths]; omega)) only [val_br, val_ob, val_leaf, val_chk, val_sm, bne_self, beq_self_eq_true, br_f, ob_s, Bool.not_true, eq_ByteS, eq_IntS, eq_Win, eq_Ep, eq_Chan, eq_Addr, eq_Cand, eq_CandS, eq_Paths]
theorem mark_Sess (d : YSess) (k : Int) (h0 : 0 ≤ k) (h1 : k + (wt_Sess d : Nat) ≤ 4611686018427387904) (hl : need_Sess d ≤ 4294967296) : V_l_markSess d (k, ()) = some ((k + (wt_Sess d : Nat), ()), (d.1, mkL m_B w_B d.2.1 (k), mkL m_B w_B d.2.2.1 (k + (sumN w_B d.2.1 : Nat)), d.2.2.2.1, mkL m_B w_B d.2.2.2.2.1 (k + (sumN w_B d.2.1 : Nat) + (sumN w_B d.2.2.1 : Nat)), d.2.2.2.2.2.1, mkL m_B w_B d.2.2.2.2.2.2.1 (k + (sumN w_B d.2.1 : Nat) + (sumN w_B d.2.2.1 : Nat) + (sumN w_B d.2.2.2.2.1 : Nat)), d.2.2.2.2.2.2.2.1, d.2.2.2.2.2.2.2.2.1, mkL m_I w_I d.2.2.2.2.2.2.2.2.2.1 (k + (sumN w_B d.2.1 : Nat) + (sumN w_B d.2.2.1 : Nat) + (sumN w_B d.2.2.2.2.1 : Nat) + (sumN w_B d.2.2.2.2.2.2.1 : Nat)), d.2.2.2.2.2.2.2.2.2.2.1, mkL m_B w_B d.2.2.2.2.2.2.2.2.2.2.2.1 (k + (sumN w_B d.2.1 : Nat) + (sumN w_B d.2.2.1 : Nat) + (sumN w_B d.2.2.2.2.1 : Nat) + (sumN w_B d.2.2.2.2.2.2.1 : Nat) + (sumN w_I d.2.2.2.2.2.2.2.2.2.1 : Nat)), d.2.2.2.2.2.2.2.2.2.2.2.2.1, d.2.2.2.2.2.2.2.2.2.2.2.2.2.1, mkL m_I w_I d.2.2.2.2.2.2.2.2.2.2.2.2.2.2.1 (k + (sumN w_B d.2.1 : Nat) + (sumN w_B d.2.2.1 : Nat) + (sumN w_B d.2.2.2.2.1 : Nat) + (sumN w_B d.2.2.2.2.2.2.1 : Nat) + (sumN w_I d.2.2.2.2.2.2.2.2.2.1 : Nat) + (sumN w_B d.2.2.2.2.2.2.2.2.2.2.2.1 : Nat)), d.2.2.2.2.2.2.2.2.2.2.2.2.2.2.2.1, d.2.2.2.2.2.2.2.2.2.2.2.2.2.2.2.2.1, mkL m_B w_B d.2.2.2.2.2.2.2.2.2.2.2.2.2.2.2.2.2.1 (k + (sumN w_B d.2.1 : Nat) + (sumN w_B d.2.2.1 : Nat) + (sumN w_B d.2.2.2.2.1 : Nat) + (sumN w_B d.2.2.2.2.2.2.1 : Nat) + (sumN w_I d.2.2.2.2.2.2.2.2.2.1 : Nat) + (sumN w_B d.2.2.2.2.2.2.2.2.2.2.2.1 : Nat) + (sumN w_I d.2.2.2.2.2.2.2.2.2.2.2.2.2.2.1 : Nat)), d.2.2.2.2.2.2.2.2.2.2.2.2.2.2.2.2.2.2.1, d.2.2.2.2.2.2.2.2.2.2.2.2.2.2.2.2.2.2.2.1, mkL m_Cand w_Cand d.2.2.2.2.2.2.2.2.2.2.2.2.2.2.2.2.2.2.2.2.1 (k + (sumN w_B d.2.1 : Nat) + (sumN w_B d.2.2.1 : Nat) + (sumN w_B d.2.2.2.2.1 : Nat) + (sumN w_B d.2.2.2.2.2.2.1 : Nat) + (sumN w_I d.2.2.2.2.2.2.2.2.2.1 : Nat) + (sumN w_B d.2.2.2.2.2.2.2.2.2.2.2.1 : Nat) + (sumN w_I d.2.2.2.2.2.2.2.2.2.2.2.2.2.2.1 : Nat) + (sumN w_B d.2.2.2.2.2.2.2.2.2.2.2.2.2.2.2.2.2.1 : Nat)), d.2.2.2.2.2.2.2.2.2.2.2.2.2.2.2.2.2.2.2.2.2.1, d.2.2.2.2.2.2.2.2.2.2.2.2.2.2.2.2.2.2.2.2.2.2.1, d.2.2.2.2.2.2.2.2.2.2.2.2.2.2.2.2.2.2.2.2.2.2.2.1, ())) := by
  have hn : need_Sess d = d.2.1.length + d.2.2.1.length + d.2.2.2.2.1.length + d.2.2.2.2.2.2.1.length + d.2.2.2.2.2.2.2.2.2.1.length + d.2.2.2.2.2.2.2.2.2.2.2.1.length + d.2.2.2.2.2.2.2.2.2.2.2.2.2.2.1.length + d.2.2.2.2.2.2.2.2.2.2.2.2.2.2.2.2.2.1.length + d.2.2.2.2.2.2.2.2.2.2.2.2.2.2.2.2.2.2.2.2.1.length + sumN need_Cand d.2.2.2.2.2.2.2.2.2.2.2.2.2.2.2.2.2.2.2.2.1 := rfl
  have hw : wt_Sess d = sumN w_B d.2.1 + sumN w_B d.2.2.1 + sumN w_B d.2.2.2.2.1 + sumN w_B d.2.2.2.2.2.2.1 + sumN w_I d.2.2.2.2.2.2.2.2.2.1 + sumN w_B d.2.2.2.2.2.2.2.2.2.2.2.1 + sumN w_I d.2.2.2.2.2.2.2.2.2.2.2.2.2.2.1 + sumN w_B d.2.2.2.2.2.2.2.2.2.2.2.2.2.2.2.2.2.1 + sumN w_Cand d.2.2.2.2.2.2.2.2.2.2.2.2.2.2.2.2.2.2.2.2.1 := rfl
  have hk : k + ((wt_Sess d : Nat) : Int) = k + (sumN w_B d.2.1 : Nat) + (sumN w_B d.2.2.1 : Nat) + (sumN w_B d.2.2.2.2.1 : Nat) + (sumN w_B d.2.2.2.2.2.2.1 : Nat) + (sumN w_I d.2.2.2.2.2.2.2.2.2.1 : Nat) + (sumN w_B d.2.2.2.2.2.2.2.2.2.2.2.1 : Nat) + (sumN w_I d.2.2.2.2.2.2.2.2.2.2.2.2.2.2.1 : Nat) + (sumN w_B d.2.2.2.2.2.2.2.2.2.2.2.2.2.2.2.2.2.1 : Nat) + (sumN w_Cand d.2.2.2.2.2.2.2.2.2.2.2.2.2.2.2.2.2.2.2.2.1 : Nat) := by simp only [wt_Sess]; all_goals omega
  rw [hk]
  unfold V_l_markSess T_l_markSess
  simp (maxSteps := 4000000) (disch := first | omega | (dsimp only; omega) | (simp only [need_Chan, wt_Chan, need_Paths, wt_Paths, Int.natCast_add]; omega)) only [val_br, val_ob, val_leaf, val_chk, val_sm, ob_s, mark_ByteS, mark_IntS, mark_Win, mark_Ep, mark_Chan, mark_CandS, mark_Paths, wt_Chan, wt_Paths, Int.natCast_add, ← Int.add_assoc]
theorem held_Sess (d : YSess) (k : Int) (h0 : 0 ≤ k) (h1 : k + (wt_Sess d : Nat) ≤ 4611686018427387904) (hl : need_Sess d ≤ 4294967296) : V_l_heldSess (d.1, mkL m_B w_B d.2.1 (k), mkL m_B w_B d.2.2.1 (k + (sumN w_B d.2.1 : Nat)), d.2.2.2.1, mkL m_B w_B d.2.2.2.2.1 (k + (sumN w_B d.2.1 : Nat) + (sumN w_B d.2.2.1 : Nat)), d.2.2.2.2.2.1, mkL m_B w_B d.2.2.2.2.2.2.1 (k + (sumN w_B d.2.1 : Nat) + (sumN w_B d.2.2.1 : Nat) + (sumN w_B d.2.2.2.2.1 : Nat)), d.2.2.2.2.2.2.2.1, d.2.2.2.2.2.2.2.2.1, mkL m_I w_I d.2.2.2.2.2.2.2.2.2.1 (k + (sumN w_B d.2.1 : Nat) + (sumN w_B d.2.2.1 : Nat) + (sumN w_B d.2.2.2.2.1 : Nat) + (sumN w_B d.2.2.2.2.2.2.1 : Nat)), d.2.2.2.2.2.2.2.2.2.2.1, mkL m_B w_B d.2.2.2.2.2.2.2.2.2.2.2.1 (k + (sumN w_B d.2.1 : Nat) + (sumN w_B d.2.2.1 : Nat) + (sumN w_B d.2.2.2.2.1 : Nat) + (sumN w_B d.2.2.2.2.2.2.1 : Nat) + (sumN w_I d.2.2.2.2.2.2.2.2.2.1 : Nat)), d.2.2.2.2.2.2.2.2.2.2.2.2.1, d.2.2.2.2.2.2.2.2.2.2.2.2.2.1, mkL m_I w_I d.2.2.2.2.2.2.2.2.2.2.2.2.2.2.1 (k + (sumN w_B d.2.1 : Nat) + (sumN w_B d.2.2.1 : Nat) + (sumN w_B d.2.2.2.2.1 : Nat) + (sumN w_B d.2.2.2.2.2.2.1 : Nat) + (sumN w_I d.2.2.2.2.2.2.2.2.2.1 : Nat) + (sumN w_B d.2.2.2.2.2.2.2.2.2.2.2.1 : Nat)), d.2.2.2.2.2.2.2.2.2.2.2.2.2.2.2.1, d.2.2.2.2.2.2.2.2.2.2.2.2.2.2.2.2.1, mkL m_B w_B d.2.2.2.2.2.2.2.2.2.2.2.2.2.2.2.2.2.1 (k + (sumN w_B d.2.1 : Nat) + (sumN w_B d.2.2.1 : Nat) + (sumN w_B d.2.2.2.2.1 : Nat) + (sumN w_B d.2.2.2.2.2.2.1 : Nat) + (sumN w_I d.2.2.2.2.2.2.2.2.2.1 : Nat) + (sumN w_B d.2.2.2.2.2.2.2.2.2.2.2.1 : Nat) + (sumN w_I d.2.2.2.2.2.2.2.2.2.2.2.2.2.2.1 : Nat)), d.2.2.2.2.2.2.2.2.2.2.2.2.2.2.2.2.2.2.1, d.2.2.2.2.2.2.2.2.2.2.2.2.2.2.2.2.2.2.2.1, mkL m_Cand w_Cand d.2.2.2.2.2.2.2.2.2.2.2.2.2.2.2.2.2.2.2.2.1 (k + (sumN w_B d.2.1 : Nat) + (sumN w_B d.2.2.1 : Nat) + (sumN w_B d.2.2.2.2.1 : Nat) + (sumN w_B d.2.2.2.2.2.2.1 : Nat) + (sumN w_I d.2.2.2.2.2.2.2.2.2.1 : Nat) + (sumN w_B d.2.2.2.2.2.2.2.2.2.2.2.1 : Nat) + (sumN w_I d.2.2.2.2.2.2.2.2.2.2.2.2.2.2.1 : Nat) + (sumN w_B d.2.2.2.2.2.2.2.2.2.2.2.2.2.2.2.2.2.1 : Nat)), d.2.2.2.2.2.2.2.2.2.2.2.2.2.2.2.2.2.2.2.2.2.1, d.2.2.2.2.2.2.2.2.2.2.2.2.2.2.2.2.2.2.2.2.2.2.1, d.2.2.2.2.2.2.2.2.2.2.2.2.2.2.2.2.2.2.2.2.2.2.2.1, ()) (k, ()) = some (k + (wt_Sess d : Nat), ()) := by
  have hn : need_Sess d = d.2.1.length + d.2.2.1.length + d.2.2.2.2.1.length + d.2.2.2.2.2.2.1.length + d.2.2.2.2.2.2.2.2.2.1.length + d.2.2.2.2.2.2.2.2.2.2.2.1.length + d.2.2.2.2.2.2.2.2.2.2.2.2.2.2.1.length + d.2.2.2.2.2.2.2.2.2.2.2.2.2.2.2.2.2.1.length + d.2.2.2.2.2.2.2.2.2.2.2.2.2.2.2.2.2.2.2.2.1.length + sumN need_Cand d.2.2.2.2.2.2.2.2.2.2.2.2.2.2.2.2.2.2.2.2.1 := rfl
  have hw : wt_Sess d = sumN w_B d.2.1 + sumN w_B d.2.2.1 + sumN w_B d.2.2.2.2.1 + sumN w_B d.2.2.2.2.2.2.1 + sumN w_I d.2.2.2.2.2.2.2.2.2.1 + sumN w_B d.2.2.2.2.2.2.2.2.2.2.2.1 + sumN w_I d.2.2.2.2.2.2.2.2.2.2.2.2.2.2.1 + sumN w_B d.2.2.2.2.2.2.2.2.2.2.2.2.2.2.2.2.2.1 + sumN w_Cand d.2.2.2.2.2.2.2.2.2.2.2.2.2.2.2.2.2.2.2.2.1 := rfl
  have hk : k + ((wt_Sess d : Nat) : Int) = k + (sumN w_B d.2.1 : Nat) + (sumN w_B d.2.2.1 : Nat) + (sumN w_B d.2.2.2.2.1 : Nat) + (sumN w_B d.2.2.2.2.2.2.1 : Nat) + (sumN w_I d.2.2.2.2.2.2.2.2.2.1 : Nat) + (sumN w_B d.2.2.2.2.2.2.2.2.2.2.2.1 : Nat) + (sumN w_I d.2.2.2.2.2.2.2.2.2.2.2.2.2.2.1 : Nat) + (sumN w_B d.2.2.2.2.2.2.2.2.2.2.2.2.2.2.2.2.2.1 : Nat) + (sumN w_Cand d.2.2.2.2.2.2.2.2.2.2.2.2.2.2.2.2.2.2.2.2.1 : Nat) := by simp only [wt_Sess]; all_goals omega
  rw [hk]
  unfold V_l_heldSess T_l_heldSess
  simp (maxSteps := 4000000) (disch := first | omega | (dsimp only; omega) | (simp only [need_Chan, wt_Chan, need_Paths, wt_Paths, Int.natCast_add]; omega)) only [val_br, val_ob, val_leaf, val_chk, val_sm, ob_s, br_f, nn_dec, held_ByteS, held_IntS, held_Win, held_Ep, held_Chan, held_CandS, held_Paths, wt_Chan, wt_Paths, Int.natCast_add, ← Int.add_assoc, heldc_Chan, heldc_Paths]
theorem heldc_Sess (c0 : Int) (c1 : List YB) (c2 : List YB) (c3 : Int) (c4 : List YB) (c5 : Int) (c6 : List YB) (c7 : Int) (c8 : Int) (c9 : List YI) (c10 : Int) (c11 : List YB) (c12 : Int) (c13 : Int) (c14 : List YI) (c15 : Bool) (c16 : Int) (c17 : List YB) (c18 : Int) (c19 : Int) (c20 : List YCand) (c21 : Int) (c22 : Int) (c23 : Bool) (k : Int) (h0 : 0 ≤ k) (h1 : k + (wt_Sess (c0, c1, c2, c3, c4, c5, c6, c7, c8, c9, c10, c11, c12, c13, c14, c15, c16, c17, c18, c19, c20, c21, c22, c23, ()) : Nat) ≤ 4611686018427387904) (hl : need_Sess (c0, c1, c2, c3, c4, c5, c6, c7, c8, c9, c10, c11, c12, c13, c14, c15, c16, c17, c18, c19, c20, c21, c22, c23, ()) ≤ 4294967296) : V_l_heldSess (c0, mkL m_B w_B c1 (k), mkL m_B w_B c2 (k + (sumN w_B c1 : Nat)), c3, mkL m_B w_B c4 (k + (sumN w_B c1 : Nat) + (sumN w_B c2 : Nat)), c5, mkL m_B w_B c6 (k + (sumN w_B c1 : Nat) + (sumN w_B c2 : Nat) + (sumN w_B c4 : Nat)), c7, c8, mkL m_I w_I c9 (k + (sumN w_B c1 : Nat) + (sumN w_B c2 : Nat) + (sumN w_B c4 : Nat) + (sumN w_B c6 : Nat)), c10, mkL m_B w_B c11 (k + (sumN w_B c1 : Nat) + (sumN w_B c2 : Nat) + (sumN w_B c4 : Nat) + (sumN w_B c6 : Nat) + (sumN w_I c9 : Nat)), c12, c13, mkL m_I w_I c14 (k + (sumN w_B c1 : Nat) + (sumN w_B c2 : Nat) + (sumN w_B c4 : Nat) + (sumN w_B c6 : Nat) + (sumN w_I c9 : Nat) + (sumN w_B c11 : Nat)), c15, c16, mkL m_B w_B c17 (k + (sumN w_B c1 : Nat) + (sumN w_B c2 : Nat) + (sumN w_B c4 : Nat) + (sumN w_B c6 : Nat) + (sumN w_I c9 : Nat) + (sumN w_B c11 : Nat) + (sumN w_I c14 : Nat)), c18, c19, mkL m_Cand w_Cand c20 (k + (sumN w_B c1 : Nat) + (sumN w_B c2 : Nat) + (sumN w_B c4 : Nat) + (sumN w_B c6 : Nat) + (sumN w_I c9 : Nat) + (sumN w_B c11 : Nat) + (sumN w_I c14 : Nat) + (sumN w_B c17 : Nat)), c21, c22, c23, ()) (k, ()) = some (k + (wt_Sess (c0, c1, c2, c3, c4, c5, c6, c7, c8, c9, c10, c11, c12, c13, c14, c15, c16, c17, c18, c19, c20, c21, c22, c23, ()) : Nat), ()) := held_Sess (c0, c1, c2, c3, c4, c5, c6, c7, c8, c9, c10, c11, c12, c13, c14, c15, c16, c17, c18, c19, c20, c21, c22, c23, ()) k h0 h1 hl
theorem sz_ByteSS (d : List YBs × Unit) (n : Int) (h0 : -1 ≤ n) (h1 : n ≤ 1099511627776) (hl : d.1.length ≤ 9223372036854775807 ∧ (∀ (i : Nat) x, d.1[i]? = some x → lo_Bs x)) : V_l_szByteSS d (n, ()) = some (szR (d.1.length + sumN need_Bs d.1) n, ()) := by
  obtain ⟨hl1, hl2⟩ := hl
  unfold V_l_szByteSS T_l_szByteSS
  simp only [val_br, val_ob, val_leaf, val_chk, val_sm]
  rw [w64 (by omega)]
  by_cases h : (d.1.length : Int) ≤ n
  · rw [dec_f (by omega), br_f, loop_sz need_Bs (l := d.1) (fun n' i x hx hi h0' h1' => by
        have hlx := hl2 i x hx
        unfold B_l_szByteSS_5
        simp only [val_br, val_ob, val_leaf, val_chk, val_sm, lt_dec hi, br_t, idx_at hx, ob_s]
        rw [sz_ByteS x n' h0' h1' (by exact hlx), ob_s]
        simp only [need_Bs]
        rw [w64 (by omega)]
        rfl) (fun n' => by
        unfold B_l_szByteSS_5
        simp only [val_br, val_ob, val_leaf, val_chk, val_sm, ge_dec, br_f]) (by omega) (by omega), ← szR_szR]
    unfold szR
    rw [if_pos h]
  · rw [dec_t (by omega), br_t]
    unfold szR
    rw [if_neg (by omega)]
theorem to_ByteSS (d : List YBs × Unit) (h : d.1.length + sumN need_Bs d.1 ≤ 4294967296) : V_l_toByteSS d = some d := by
  have e := fun (m : List YBs) (hm : m.length = d.1.length) => loop_to (B := B_l_toByteSS_3) (m := m) (l := d.1) (ok := fun _ => True) (fun m i x y hx hi hy => by
    unfold B_l_toByteSS_3
    simp only [val_br, val_ob, val_leaf, val_chk, val_sm, lt_dec hi, br_t, idx_at hx, idx_at hy, ob_s, Int.toNat_natCast]
    have hx2 := sumN_at (f := need_Bs) hx
    rw [to_ByteS x (by first | omega | (simp only [need_Bs] at *; omega)), ob_s]
    try simp only [idx_at hy, ob_s, Int.toNat_natCast]
    rw [w64 (by omega)]) (fun m => by
    unfold B_l_toByteSS_3
    simp only [val_br, val_ob, val_leaf, val_chk, val_sm, ge_dec, br_f]) hm
  unfold V_l_toByteSS T_l_toByteSS
  simp only [val_br, val_ob, val_leaf, val_chk, val_sm, decide_true]
  rw [dec_t (by omega), dec_t (by omega), chk_t, chk_t, chk_t, e _ (by simp)]
  rfl
theorem eq_ByteSS (d : List YBs × Unit) (h : d.1.length + sumN need_Bs d.1 ≤ 4294967296) : V_l_eqByteSS d d = some (true, ()) := by
  have e := loop_eq (B := B_l_eqByteSS_4) (l := d.1) (fun i x hx hi => by
    unfold B_l_eqByteSS_4
    simp only [val_br, val_ob, val_leaf, val_chk, val_sm, lt_dec hi, br_t, idx_at hx, ob_s, bne_self, br_f]
    have hx2 := sumN_at (f := need_Bs) hx
    rw [eq_ByteS x (by first | omega | (simp only [need_Bs] at *; omega)), ob_s]
    try simp only [Bool.not_true, br_f]
    rw [w64 (by omega)]) (by
    unfold B_l_eqByteSS_4
    simp only [val_br, val_ob, val_leaf, val_chk, val_sm, ge_dec, br_f])
  unfold V_l_eqByteSS T_l_eqByteSS
  simp only [val_br, val_ob, val_leaf, val_chk, val_sm, bne_self, br_f]
  rw [e]
  rfl
theorem sz_Jar (d : YJar) (n : Int) (h0 : -1 ≤ n) (h1 : n ≤ 1099511627776) (hl : lo_Jar d) : V_l_szJar d (n, ()) = some (szR (need_Jar d) n, ()) := by
  unfold lo_Jar at hl
  skip
  unfold V_l_szJar T_l_szJar
  simp only [val_br, val_ob, val_leaf, val_chk, val_sm]
  simp (disch := first | omega | (dsimp only; omega) | exact szR_ge _ _ | exact szR_le (by omega) (by omega) | ((repeat' (first | assumption | apply And.intro)); done) | ((first | unfold lo_Jar | unfold lo_Win | unfold lo_Ep | unfold lo_Chan | unfold lo_Addr | unfold lo_Cand | unfold lo_Paths | unfold lo_Sess); dsimp only; (repeat' (first | assumption | apply And.intro)); done)) only [sz_ByteS, sz_IntS, sz_Win, sz_Ep, sz_Chan, sz_Cand, sz_CandS, sz_Paths, sz_Sess, sz_ByteSS, ob_s, szR_szR]
  all_goals try simp (disch := first | omega | (simp only [need_Jar, need_Win, need_Ep, need_Chan, need_Addr, need_Cand, need_Paths, need_Sess]; omega)) only [brsz]
  all_goals (first | rfl | (refine congrArg (fun t => some (szR t n, ())) ?_; simp only [need_Jar, need_Win, need_Ep, need_Chan, need_Addr, need_Cand, need_Paths, need_Sess]; omega))
theorem to_Jar (d : YJar) (h : need_Jar d ≤ 4294967296) : V_l_toJar d = some d := by
  have hn : need_Jar d = d.1.length := rfl
  unfold V_l_toJar T_l_toJar
  simp only [val_br, val_ob, val_leaf, val_chk, val_sm]
  simp (disch := first | omega | (simp only [need_Jar, need_Win, need_Ep, need_Chan, need_Addr, need_Cand, need_Paths, need_Sess]; omega)) only [to_ByteS, to_IntS, to_Win, to_Ep, to_Chan, to_Addr, to_Cand, to_CandS, to_Paths, to_Sess, to_ByteSS, ob_s]
  all_goals rfl
theorem eq_Jar (d : YJar) (h : need_Jar d ≤ 4294967296) : V_l_eqJar d d = some (true, ()) := by
  have hn : need_Jar d = d.1.length := rfl
  unfold V_l_eqJar T_l_eqJar
  simp (disch := first | omega | (simp only [need_Jar, need_Win, need_Ep, need_Chan, need_Addr, need_Cand, need_Paths, need_Sess]; omega)) only [val_br, val_ob, val_leaf, val_chk, val_sm, bne_self, beq_self_eq_true, br_f, ob_s, Bool.not_true, eq_ByteS, eq_IntS, eq_Win, eq_Ep, eq_Chan, eq_Addr, eq_Cand, eq_CandS, eq_Paths, eq_Sess, eq_ByteSS]
theorem sz_Dice (d : YDice) (n : Int) (h0 : -1 ≤ n) (h1 : n ≤ 1099511627776) (hl : lo_Dice d) : V_l_szDice d (n, ()) = some (szR (need_Dice d) n, ()) := by
  unfold lo_Dice at hl
  skip
  unfold V_l_szDice T_l_szDice
  simp only [val_br, val_ob, val_leaf, val_chk, val_sm]
  simp (disch := first | omega | (dsimp only; omega) | exact szR_ge _ _ | exact szR_le (by omega) (by omega) | ((repeat' (first | assumption | apply And.intro)); done) | ((first | unfold lo_Dice | unfold lo_Win | unfold lo_Ep | unfold lo_Chan | unfold lo_Addr | unfold lo_Cand | unfold lo_Paths | unfold lo_Sess | unfold lo_Jar); dsimp only; (repeat' (first | assumption | apply And.intro)); done)) only [sz_ByteS, sz_IntS, sz_Win, sz_Ep, sz_Chan, sz_Cand, sz_CandS, sz_Paths, sz_Sess, sz_ByteSS, sz_Jar, ob_s, szR_szR]
  all_goals try simp (disch := first | omega | (simp only [need_Dice, need_Win, need_Ep, need_Chan, need_Addr, need_Cand, need_Paths, need_Sess, need_Jar]; omega)) only [brsz]
  all_goals (first | rfl | (refine congrArg (fun t => some (szR t n, ())) ?_; simp only [need_Dice, need_Win, need_Ep, need_Chan, need_Addr, need_Cand, need_Paths, need_Sess, need_Jar]; omega))
theorem to_Dice (d : YDice) (h : need_Dice d ≤ 4294967296) : V_l_toDice d = some d := by
  have hn : need_Dice d = d.1.length := rfl
  unfold V_l_toDice T_l_toDice
  simp only [val_br, val_ob, val_leaf, val_chk, val_sm]
  simp (disch := first | omega | (simp only [need_Dice, need_Win, need_Ep, need_Chan, need_Addr, need_Cand, need_Paths, need_Sess, need_Jar]; omega)) only [to_ByteS, to_IntS, to_Win, to_Ep, to_Chan, to_Addr, to_Cand, to_CandS, to_Paths, to_Sess, to_ByteSS, to_Jar, ob_s]
  all_goals rfl
theorem eq_Dice (d : YDice) (h : need_Dice d ≤ 4294967296) : V_l_eqDice d d = some (true, ()) := by
  have hn : need_Dice d = d.1.length := rfl
  unfold V_l_eqDice T_l_eqDice
  simp (disch := first | omega | (simp only [need_Dice, need_Win, need_Ep, need_Chan, need_Addr, need_Cand, need_Paths, need_Sess, need_Jar]; omega)) only [val_br, val_ob, val_leaf, val_chk, val_sm, bne_self, beq_self_eq_true, br_f, ob_s, Bool.not_true, eq_ByteS, eq_IntS, eq_Win, eq_Ep, eq_Chan, eq_Addr, eq_Cand, eq_CandS, eq_Paths, eq_Sess, eq_ByteSS, eq_Jar]
theorem sz_SessS (d : List YSess × Unit) (n : Int) (h0 : -1 ≤ n) (h1 : n ≤ 1099511627776) (hl : d.1.length ≤ 9223372036854775807 ∧ (∀ (i : Nat) x, d.1[i]? = some x → lo_Sess x)) : V_l_szSessS d (n, ()) = some (szR (d.1.length + sumN need_Sess d.1) n, ()) := by
  obtain ⟨hl1, hl2⟩ := hl
  unfold V_l_szSessS T_l_szSessS
  simp only [val_br, val_ob, val_leaf, val_chk, val_sm]
  rw [w64 (by omega)]
  by_cases h : (d.1.length : Int) ≤ n
  · rw [dec_f (by omega), br_f, loop_sz need_Sess (l := d.1) (fun n' i x hx hi h0' h1' => by
        have hlx := hl2 i x hx
        unfold B_l_szSessS_5
        simp only [val_br, val_ob, val_leaf, val_chk, val_sm, lt_dec hi, br_t, idx_at hx, ob_s]
        rw [sz_Sess x n' h0' h1' (by exact hlx), ob_s]
        rw [w64 (by omega)]) (fun n' => by
        unfold B_l_szSessS_5
        simp only [val_br, val_ob, val_leaf, val_chk, val_sm, ge_dec, br_f]) (by omega) (by omega), ← szR_szR]
    unfold szR
    rw [if_pos h]
  · rw [dec_t (by omega), br_t]
    unfold szR
    rw [if_neg (by omega)]
theorem to_SessS (d : List YSess × Unit) (h : d.1.length + sumN need_Sess d.1 ≤ 4294967296) : V_l_toSessS d = some d := by
  have e := fun (m : List YSess) (hm : m.length = d.1.length) => loop_to (B := B_l_toSessS_3) (m := m) (l := d.1) (ok := fun _ => True) (fun m i x y hx hi hy => by
    unfold B_l_toSessS_3
    simp only [val_br, val_ob, val_leaf, val_chk, val_sm, lt_dec hi, br_t, idx_at hx, idx_at hy, ob_s, Int.toNat_natCast]
    have hx2 := sumN_at (f := need_Sess) hx
    rw [to_Sess x (by first | omega | (simp only [need_Sess] at *; omega)), ob_s]
    try simp only [idx_at hy, ob_s, Int.toNat_natCast]
    rw [w64 (by omega)]) (fun m => by
    unfold B_l_toSessS_3
    simp only [val_br, val_ob, val_leaf, val_chk, val_sm, ge_dec, br_f]) hm
  unfold V_l_toSessS T_l_toSessS
  simp only [val_br, val_ob, val_leaf, val_chk, val_sm, decide_true]
  rw [dec_t (by omega), dec_t (by omega), chk_t, chk_t, chk_t, e _ (by simp)]
  rfl
theorem eq_SessS (d : List YSess × Unit) (h : d.1.length + sumN need_Sess d.1 ≤ 4294967296) : V_l_eqSessS d d = some (true, ()) := by
  have e := loop_eq (B := B_l_eqSessS_4) (l := d.1) (fun i x hx hi => by
    unfold B_l_eqSessS_4
    simp only [val_br, val_ob, val_leaf, val_chk, val_sm, lt_dec hi, br_t, idx_at hx, ob_s, bne_self, br_f]
    have hx2 := sumN_at (f := need_Sess) hx
    rw [eq_Sess x (by first | omega | (simp only [need_Sess] at *; omega)), ob_s]
    try simp only [Bool.not_true, br_f]
    rw [w64 (by omega)]) (by
    unfold B_l_eqSessS_4
    simp only [val_br, val_ob, val_leaf, val_chk, val_sm, ge_dec, br_f])
  unfold V_l_eqSessS T_l_eqSessS
  simp only [val_br, val_ob, val_leaf, val_chk, val_sm, bne_self, br_f]
  rw [e]
  rfl
theorem sz_Tab (d : YTab) (n : Int) (h0 : -1 ≤ n) (h1 : n ≤ 1099511627776) (hl : lo_Tab d) : V_l_szTab d (n, ()) = some (szR (need_Tab d) n, ()) := by
  unfold lo_Tab at hl
  obtain ⟨hl0, hl1⟩ := hl
  unfold V_l_szTab T_l_szTab
  simp only [val_br, val_ob, val_leaf, val_chk, val_sm]
  simp (disch := first | omega | (dsimp only; omega) | exact szR_ge _ _ | exact szR_le (by omega) (by omega) | ((repeat' (first | assumption | apply And.intro)); done) | ((first | unfold lo_Tab | unfold lo_Win | unfold lo_Ep | unfold lo_Chan | unfold lo_Addr | unfold lo_Cand | unfold lo_Paths | unfold lo_Sess | unfold lo_Jar | unfold lo_Dice); dsimp only; (repeat' (first | assumption | apply And.intro)); done)) only [sz_ByteS, sz_IntS, sz_Win, sz_Ep, sz_Chan, sz_Cand, sz_CandS, sz_Paths, sz_Sess, sz_ByteSS, sz_Jar, sz_Dice, sz_SessS, ob_s, szR_szR]
  all_goals try simp (disch := first | omega | (simp only [need_Tab, need_Win, need_Ep, need_Chan, need_Addr, need_Cand, need_Paths, need_Sess, need_Jar, need_Dice]; omega)) only [brsz]
  all_goals (first | rfl | (refine congrArg (fun t => some (szR t n, ())) ?_; simp only [need_Tab, need_Win, need_Ep, need_Chan, need_Addr, need_Cand, need_Paths, need_Sess, need_Jar, need_Dice]; omega))
theorem to_Tab (d : YTab) (h : need_Tab d ≤ 4294967296) : V_l_toTab d = some d := by
  have hn : need_Tab d = d.2.1.length + sumN need_Sess d.2.1 := rfl
  unfold V_l_toTab T_l_toTab
  simp only [val_br, val_ob, val_leaf, val_chk, val_sm]
  simp (disch := first | omega | (simp only [need_Tab, need_Win, need_Ep, need_Chan, need_Addr, need_Cand, need_Paths, need_Sess, need_Jar, need_Dice]; omega)) only [to_ByteS, to_IntS, to_Win, to_Ep, to_Chan, to_Addr, to_Cand, to_CandS, to_Paths, to_Sess, to_ByteSS, to_Jar, to_Dice, to_SessS, ob_s]
  all_goals rfl
theorem eq_Tab (d : YTab) (h : need_Tab d ≤ 4294967296) : V_l_eqTab d d = some (true, ()) := by
  have hn : need_Tab d = d.2.1.length + sumN need_Sess d.2.1 := rfl
  unfold V_l_eqTab T_l_eqTab
  simp (disch := first | omega | (simp only [need_Tab, need_Win, need_Ep, need_Chan, need_Addr, need_Cand, need_Paths, need_Sess, need_Jar, need_Dice]; omega)) only [val_br, val_ob, val_leaf, val_chk, val_sm, bne_self, beq_self_eq_true, br_f, ob_s, Bool.not_true, eq_ByteS, eq_IntS, eq_Win, eq_Ep, eq_Chan, eq_Addr, eq_Cand, eq_CandS, eq_Paths, eq_Sess, eq_ByteSS, eq_Jar, eq_Dice, eq_SessS]
theorem to_Credit (d : YCredit) : V_l_toCredit d = some d := by
  have hn : need_Credit d = 0 := rfl
  unfold V_l_toCredit T_l_toCredit
  simp only [val_br, val_ob, val_leaf, val_chk, val_sm]
  simp (disch := first | omega | (simp only [need_Credit, need_Win, need_Ep, need_Chan, need_Addr, need_Cand, need_Paths, need_Sess, need_Jar, need_Dice, need_Tab]; omega)) only [to_ByteS, to_IntS, to_Win, to_Ep, to_Chan, to_Addr, to_Cand, to_CandS, to_Paths, to_Sess, to_ByteSS, to_Jar, to_Dice, to_SessS, to_Tab, ob_s]
  all_goals rfl
theorem eq_Credit (d : YCredit) : V_l_eqCredit d d = some (true, ()) := by
  have hn : need_Credit d = 0 := rfl
  unfold V_l_eqCredit T_l_eqCredit
  simp (disch := first | omega | (simp only [need_Credit, need_Win, need_Ep, need_Chan, need_Addr, need_Cand, need_Paths, need_Sess, need_Jar, need_Dice, need_Tab]; omega)) only [val_br, val_ob, val_leaf, val_chk, val_sm, bne_self, beq_self_eq_true, br_f, ob_s, Bool.not_true, eq_ByteS, eq_IntS, eq_Win, eq_Ep, eq_Chan, eq_Addr, eq_Cand, eq_CandS, eq_Paths, eq_Sess, eq_ByteSS, eq_Jar, eq_Dice, eq_SessS, eq_Tab]
theorem sz_CreditS (d : List YCredit × Unit) (n : Int) (h0 : -1 ≤ n) (h1 : n ≤ 1099511627776) (hl : d.1.length ≤ 9223372036854775807) : V_l_szCreditS d (n, ()) = some (szR (d.1.length) n, ()) := by
  unfold V_l_szCreditS T_l_szCreditS
  simp only [val_br, val_leaf]
  simp (disch := omega) only [w64]
  unfold szR
  rw [br_i]
  by_cases h : (d.1.length : Int) ≤ n
  · simp only [decide_eq_true_eq, if_neg (show ¬ (n - (d.1.length : Int) < 0) by omega), if_pos h]
  · simp only [decide_eq_true_eq, if_pos (show n - (d.1.length : Int) < 0 by omega), if_neg h]
theorem to_CreditS (d : List YCredit × Unit) (h : d.1.length ≤ 4294967296) : V_l_toCreditS d = some d := by
  have e := fun (m : List YCredit) (hm : m.length = d.1.length) => loop_to (B := B_l_toCreditS_3) (m := m) (l := d.1) (ok := fun _ => True) (fun m i x y hx hi hy => by
    unfold B_l_toCreditS_3
    simp only [val_br, val_ob, val_leaf, val_chk, val_sm, lt_dec hi, br_t, idx_at hx, idx_at hy, ob_s, Int.toNat_natCast]
    rw [to_Credit x, ob_s]
    try simp only [idx_at hy, ob_s, Int.toNat_natCast]
    rw [w64 (by omega)]) (fun m => by
    unfold B_l_toCreditS_3
    simp only [val_br, val_ob, val_leaf, val_chk, val_sm, ge_dec, br_f]) hm
  unfold V_l_toCreditS T_l_toCreditS
  simp only [val_br, val_ob, val_leaf, val_chk, val_sm, decide_true]
  rw [dec_t (by omega), dec_t (by omega), chk_t, chk_t, chk_t, e _ (by simp)]
  rfl
theorem eq_CreditS (d : List YCredit × Unit) (h : d.1.length ≤ 4294967296) : V_l_eqCreditS d d = some (true, ()) := by
  have e := loop_eq (B := B_l_eqCreditS_4) (l := d.1) (fun i x hx hi => by
    unfold B_l_eqCreditS_4
    simp only [val_br, val_ob, val_leaf, val_chk, val_sm, lt_dec hi, br_t, idx_at hx, ob_s, bne_self, br_f]
    rw [eq_Credit x, ob_s]
    try simp only [Bool.not_true, br_f]
    rw [w64 (by omega)]) (by
    unfold B_l_eqCreditS_4
    simp only [val_br, val_ob, val_leaf, val_chk, val_sm, ge_dec, br_f])
  unfold V_l_eqCreditS T_l_eqCreditS
  simp only [val_br, val_ob, val_leaf, val_chk, val_sm, bne_self, br_f]
  rw [e]
  rfl
theorem sz_Server (d : YServer) (n : Int) (h0 : -1 ≤ n) (h1 : n ≤ 1099511627776) (hl : lo_Server d) : V_l_szServer d (n, ()) = some (szR (need_Server d) n, ()) := by
  unfold lo_Server at hl
  obtain ⟨hl0, hl1, hl2, hl3, hl4, hl5, hl6⟩ := hl
  unfold V_l_szServer T_l_szServer
  simp only [val_br, val_ob, val_leaf, val_chk, val_sm]
  simp (disch := first | omega | (dsimp only; omega) | exact szR_ge _ _ | exact szR_le (by omega) (by omega) | ((repeat' (first | assumption | apply And.intro)); done) | ((first | unfold lo_Server | unfold lo_Win | unfold lo_Ep | unfold lo_Chan | unfold lo_Addr | unfold lo_Cand | unfold lo_Paths | unfold lo_Sess | unfold lo_Jar | unfold lo_Dice | unfold lo_Tab | unfold lo_Credit); dsimp only; (repeat' (first | assumption | apply And.intro)); done)) only [sz_ByteS, sz_IntS, sz_Win, sz_Ep, sz_Chan, sz_Cand, sz_CandS, sz_Paths, sz_Sess, sz_ByteSS, sz_Jar, sz_Dice, sz_SessS, sz_Tab, sz_CreditS, ob_s, szR_szR]
  all_goals try simp (disch := first | omega | (simp only [need_Server, need_Win, need_Ep, need_Chan, need_Addr, need_Cand, need_Paths, need_Sess, need_Jar, need_Dice, need_Tab, need_Credit]; omega)) only [brsz]
  all_goals (first | rfl | (refine congrArg (fun t => some (szR t n, ())) ?_; simp only [need_Server, need_Win, need_Ep, need_Chan, need_Addr, need_Cand, need_Paths, need_Sess, need_Jar, need_Dice, need_Tab, need_Credit]; omega))
theorem to_Server (d : YServer) (h : need_Server d ≤ 4294967296) : V_l_toServer d = some d := by
  have hn : need_Server d = d.1.length + sumN need_Bs d.1 + d.2.1.length + d.2.2.1.length + d.2.2.2.2.2.1.length + sumN need_Sess d.2.2.2.2.2.1 + d.2.2.2.2.2.2.1.length := rfl
  unfold V_l_toServer T_l_toServer
  simp only [val_br, val_ob, val_leaf, val_chk, val_sm]
  simp (disch := first | omega | (simp only [need_Server, need_Win, need_Ep, need_Chan, need_Addr, need_Cand, need_Paths, need_Sess, need_Jar, need_Dice, need_Tab, need_Credit]; omega)) only [to_ByteS, to_IntS, to_Win, to_Ep, to_Chan, to_Addr, to_Cand, to_CandS, to_Paths, to_Sess, to_ByteSS, to_Jar, to_Dice, to_SessS, to_Tab, to_Credit, to_CreditS, ob_s]
  all_goals rfl
theorem eq_Server (d : YServer) (h : need_Server d ≤ 4294967296) : V_l_eqServer d d = some (true, ()) := by
  have hn : need_Server d = d.1.length + sumN need_Bs d.1 + d.2.1.length + d.2.2.1.length + d.2.2.2.2.2.1.length + sumN need_Sess d.2.2.2.2.2.1 + d.2.2.2.2.2.2.1.length := rfl
  unfold V_l_eqServer T_l_eqServer
  simp (disch := first | omega | (simp only [need_Server, need_Win, need_Ep, need_Chan, need_Addr, need_Cand, need_Paths, need_Sess, need_Jar, need_Dice, need_Tab, need_Credit]; omega)) only [val_br, val_ob, val_leaf, val_chk, val_sm, bne_self, beq_self_eq_true, br_f, ob_s, Bool.not_true, eq_ByteS, eq_IntS, eq_Win, eq_Ep, eq_Chan, eq_Addr, eq_Cand, eq_CandS, eq_Paths, eq_Sess, eq_ByteSS, eq_Jar, eq_Dice, eq_SessS, eq_Tab, eq_Credit, eq_CreditS]
theorem sz_Frame (d : YFrame) (n : Int) (h0 : -1 ≤ n) (h1 : n ≤ 1099511627776) (hl : lo_Frame d) : V_l_szFrame d (n, ()) = some (szR (need_Frame d) n, ()) := by
  unfold lo_Frame at hl
  obtain ⟨hl0, hl1, hl2, hl3, hl4, hl5⟩ := hl
  unfold V_l_szFrame T_l_szFrame
  simp only [val_br, val_ob, val_leaf, val_chk, val_sm]
  simp (disch := first | omega | (dsimp only; omega) | exact szR_ge _ _ | exact szR_le (by omega) (by omega) | ((repeat' (first | assumption | apply And.intro)); done) | ((first | unfold lo_Frame | unfold lo_Win | unfold lo_Ep | unfold lo_Chan | unfold lo_Addr | unfold lo_Cand | unfold lo_Paths | unfold lo_Sess | unfold lo_Jar | unfold lo_Dice | unfold lo_Tab | unfold lo_Credit | unfold lo_Server); dsimp only; (repeat' (first | assumption | apply And.intro)); done)) only [sz_ByteS, sz_IntS, sz_Win, sz_Ep, sz_Chan, sz_Cand, sz_CandS, sz_Paths, sz_Sess, sz_ByteSS, sz_Jar, sz_Dice, sz_SessS, sz_Tab, sz_CreditS, sz_Server, ob_s, szR_szR]
  all_goals try simp (disch := first | omega | (simp only [need_Frame, need_Win, need_Ep, need_Chan, need_Addr, need_Cand, need_Paths, need_Sess, need_Jar, need_Dice, need_Tab, need_Credit, need_Server]; omega)) only [brsz]
  all_goals (first | rfl | (refine congrArg (fun t => some (szR t n, ())) ?_; simp only [need_Frame, need_Win, need_Ep, need_Chan, need_Addr, need_Cand, need_Paths, need_Sess, need_Jar, need_Dice, need_Tab, need_Credit, need_Server]; omega))
theorem to_Frame (d : YFrame) (h : need_Frame d ≤ 4294967296) : V_l_toFrame d = some d := by
  have hn : need_Frame d = d.2.2.1.length + d.2.2.2.1.length + d.2.2.2.2.2.1.length + d.2.2.2.2.2.2.1.length + d.2.2.2.2.2.2.2.2.2.1.length + d.2.2.2.2.2.2.2.2.2.2.1.length := rfl
  unfold V_l_toFrame T_l_toFrame
  simp only [val_br, val_ob, val_leaf, val_chk, val_sm]
  simp (disch := first | omega | (simp only [need_Frame, need_Win, need_Ep, need_Chan, need_Addr, need_Cand, need_Paths, need_Sess, need_Jar, need_Dice, need_Tab, need_Credit, need_Server]; omega)) only [to_ByteS, to_IntS, to_Win, to_Ep, to_Chan, to_Addr, to_Cand, to_CandS, to_Paths, to_Sess, to_ByteSS, to_Jar, to_Dice, to_SessS, to_Tab, to_Credit, to_CreditS, to_Server, ob_s]
  all_goals rfl
theorem eq_Frame (d : YFrame) (h : need_Frame d ≤ 4294967296) : V_l_eqFrame d d = some (true, ()) := by
  have hn : need_Frame d = d.2.2.1.length + d.2.2.2.1.length + d.2.2.2.2.2.1.length + d.2.2.2.2.2.2.1.length + d.2.2.2.2.2.2.2.2.2.1.length + d.2.2.2.2.2.2.2.2.2.2.1.length := rfl
  unfold V_l_eqFrame T_l_eqFrame
  simp (disch := first | omega | (simp only [need_Frame, need_Win, need_Ep, need_Chan, need_Addr, need_Cand, need_Paths, need_Sess, need_Jar, need_Dice, need_Tab, need_Credit, need_Server]; omega)) only [val_br, val_ob, val_leaf, val_chk, val_sm, bne_self, beq_self_eq_true, br_f, ob_s, Bool.not_true, eq_ByteS, eq_IntS, eq_Win, eq_Ep, eq_Chan, eq_Addr, eq_Cand, eq_CandS, eq_Paths, eq_Sess, eq_ByteSS, eq_Jar, eq_Dice, eq_SessS, eq_Tab, eq_Credit, eq_CreditS, eq_Server]
theorem mark_Frame (d : YFrame) (k : Int) (h0 : 0 ≤ k) (h1 : k + (wt_Frame d : Nat) ≤ 4611686018427387904) (hl : need_Frame d ≤ 4294967296) : V_l_markFrame d (k, ()) = some ((k + (wt_Frame d : Nat), ()), (d.1, d.2.1, mkL m_B w_B d.2.2.1 (k), mkL m_B w_B d.2.2.2.1 (k + (sumN w_B d.2.2.1 : Nat)), d.2.2.2.2.1, mkL m_B w_B d.2.2.2.2.2.1 (k + (sumN w_B d.2.2.1 : Nat) + (sumN w_B d.2.2.2.1 : Nat)), mkL m_B w_B d.2.2.2.2.2.2.1 (k + (sumN w_B d.2.2.1 : Nat) + (sumN w_B d.2.2.2.1 : Nat) + (sumN w_B d.2.2.2.2.2.1 : Nat)), d.2.2.2.2.2.2.2.1, d.2.2.2.2.2.2.2.2.1, mkL m_B w_B d.2.2.2.2.2.2.2.2.2.1 (k + (sumN w_B d.2.2.1 : Nat) + (sumN w_B d.2.2.2.1 : Nat) + (sumN w_B d.2.2.2.2.2.1 : Nat) + (sumN w_B d.2.2.2.2.2.2.1 : Nat)), mkL m_B w_B d.2.2.2.2.2.2.2.2.2.2.1 (k + (sumN w_B d.2.2.1 : Nat) + (sumN w_B d.2.2.2.1 : Nat) + (sumN w_B d.2.2.2.2.2.1 : Nat) + (sumN w_B d.2.2.2.2.2.2.1 : Nat) + (sumN w_B d.2.2.2.2.2.2.2.2.2.1 : Nat)), ())) := by
  have hn : need_Frame d = d.2.2.1.length + d.2.2.2.1.length + d.2.2.2.2.2.1.length + d.2.2.2.2.2.2.1.length + d.2.2.2.2.2.2.2.2.2.1.length + d.2.2.2.2.2.2.2.2.2.2.1.length := rfl
  have hw : wt_Frame d = sumN w_B d.2.2.1 + sumN w_B d.2.2.2.1 + sumN w_B d.2.2.2.2.2.1 + sumN w_B d.2.2.2.2.2.2.1 + sumN w_B d.2.2.2.2.2.2.2.2.2.1 + sumN w_B d.2.2.2.2.2.2.2.2.2.2.1 := rfl
  have hk : k + ((wt_Frame d : Nat) : Int) = k + (sumN w_B d.2.2.1 : Nat) + (sumN w_B d.2.2.2.1 : Nat) + (sumN w_B d.2.2.2.2.2.1 : Nat) + (sumN w_B d.2.2.2.2.2.2.1 : Nat) + (sumN w_B d.2.2.2.2.2.2.2.2.2.1 : Nat) + (sumN w_B d.2.2.2.2.2.2.2.2.2.2.1 : Nat) := by simp only [wt_Frame]; all_goals omega
  rw [hk]
  unfold V_l_markFrame T_l_markFrame
  simp (maxSteps := 4000000) (disch := first | omega | (dsimp only; omega)) only [val_br, val_ob, val_leaf, val_chk, val_sm, ob_s, mark_ByteS, mark_IntS, mark_Win, mark_Ep, mark_Chan, mark_CandS, mark_Paths, mark_Sess]
theorem held_Frame (d : YFrame) (k : Int) (h0 : 0 ≤ k) (h1 : k + (wt_Frame d : Nat) ≤ 4611686018427387904) (hl : need_Frame d ≤ 4294967296) : V_l_heldFrame (d.1, d.2.1, mkL m_B w_B d.2.2.1 (k), mkL m_B w_B d.2.2.2.1 (k + (sumN w_B d.2.2.1 : Nat)), d.2.2.2.2.1, mkL m_B w_B d.2.2.2.2.2.1 (k + (sumN w_B d.2.2.1 : Nat) + (sumN w_B d.2.2.2.1 : Nat)), mkL m_B w_B d.2.2.2.2.2.2.1 (k + (sumN w_B d.2.2.1 : Nat) + (sumN w_B d.2.2.2.1 : Nat) + (sumN w_B d.2.2.2.2.2.1 : Nat)), d.2.2.2.2.2.2.2.1, d.2.2.2.2.2.2.2.2.1, mkL m_B w_B d.2.2.2.2.2.2.2.2.2.1 (k + (sumN w_B d.2.2.1 : Nat) + (sumN w_B d.2.2.2.1 : Nat) + (sumN w_B d.2.2.2.2.2.1 : Nat) + (sumN w_B d.2.2.2.2.2.2.1 : Nat)), mkL m_B w_B d.2.2.2.2.2.2.2.2.2.2.1 (k + (sumN w_B d.2.2.1 : Nat) + (sumN w_B d.2.2.2.1 : Nat) + (sumN w_B d.2.2.2.2.2.1 : Nat) + (sumN w_B d.2.2.2.2.2.2.1 : Nat) + (sumN w_B d.2.2.2.2.2.2.2.2.2.1 : Nat)), ()) (k, ()) = some (k + (wt_Frame d : Nat), ()) := by
  have hn : need_Frame d = d.2.2.1.length + d.2.2.2.1.length + d.2.2.2.2.2.1.length + d.2.2.2.2.2.2.1.length + d.2.2.2.2.2.2.2.2.2.1.length + d.2.2.2.2.2.2.2.2.2.2.1.length := rfl
  have hw : wt_Frame d = sumN w_B d.2.2.1 + sumN w_B d.2.2.2.1 + sumN w_B d.2.2.2.2.2.1 + sumN w_B d.2.2.2.2.2.2.1 + sumN w_B d.2.2.2.2.2.2.2.2.2.1 + sumN w_B d.2.2.2.2.2.2.2.2.2.2.1 := rfl
  have hk : k + ((wt_Frame d : Nat) : Int) = k + (sumN w_B d.2.2.1 : Nat) + (sumN w_B d.2.2.2.1 : Nat) + (sumN w_B d.2.2.2.2.2.1 : Nat) + (sumN w_B d.2.2.2.2.2.2.1 : Nat) + (sumN w_B d.2.2.2.2.2.2.2.2.2.1 : Nat) + (sumN w_B d.2.2.2.2.2.2.2.2.2.2.1 : Nat) := by simp only [wt_Frame]; all_goals omega
  rw [hk]
  unfold V_l_heldFrame T_l_heldFrame
  simp (maxSteps := 4000000) (disch := first | omega | (dsimp only; omega)) only [val_br, val_ob, val_leaf, val_chk, val_sm, ob_s, br_f, nn_dec, held_ByteS, held_IntS, held_Win, held_Ep, held_Chan, held_CandS, held_Paths, held_Sess]
theorem heldc_Frame (c0 : Int) (c1 : Int) (c2 : List YB) (c3 : List YB) (c4 : Int) (c5 : List YB) (c6 : List YB) (c7 : Int) (c8 : Int) (c9 : List YB) (c10 : List YB) (k : Int) (h0 : 0 ≤ k) (h1 : k + (wt_Frame (c0, c1, c2, c3, c4, c5, c6, c7, c8, c9, c10, ()) : Nat) ≤ 4611686018427387904) (hl : need_Frame (c0, c1, c2, c3, c4, c5, c6, c7, c8, c9, c10, ()) ≤ 4294967296) : V_l_heldFrame (c0, c1, mkL m_B w_B c2 (k), mkL m_B w_B c3 (k + (sumN w_B c2 : Nat)), c4, mkL m_B w_B c5 (k + (sumN w_B c2 : Nat) + (sumN w_B c3 : Nat)), mkL m_B w_B c6 (k + (sumN w_B c2 : Nat) + (sumN w_B c3 : Nat) + (sumN w_B c5 : Nat)), c7, c8, mkL m_B w_B c9 (k + (sumN w_B c2 : Nat) + (sumN w_B c3 : Nat) + (sumN w_B c5 : Nat) + (sumN w_B c6 : Nat)), mkL m_B w_B c10 (k + (sumN w_B c2 : Nat) + (sumN w_B c3 : Nat) + (sumN w_B c5 : Nat) + (sumN w_B c6 : Nat) + (sumN w_B c9 : Nat)), ()) (k, ()) = some (k + (wt_Frame (c0, c1, c2, c3, c4, c5, c6, c7, c8, c9, c10, ()) : Nat), ()) := held_Frame (c0, c1, c2, c3, c4, c5, c6, c7, c8, c9, c10, ()) k h0 h1 hl
theorem to_Timer (d : YTimer) : V_l_toTimer d = some d := by
  have hn : need_Timer d = 0 := rfl
  unfold V_l_toTimer T_l_toTimer
  simp only [val_br, val_ob, val_leaf, val_chk, val_sm]
  skip
  all_goals rfl
theorem eq_Timer (d : YTimer) : V_l_eqTimer d d = some (true, ()) := by
  have hn : need_Timer d = 0 := rfl
  unfold V_l_eqTimer T_l_eqTimer
  simp (disch := first | omega | (simp only [need_Timer, need_Win, need_Ep, need_Chan, need_Addr, need_Cand, need_Paths, need_Sess, need_Jar, need_Dice, need_Tab, need_Credit, need_Server, need_Frame]; omega)) only [val_br, val_ob, val_leaf, val_chk, val_sm, bne_self, beq_self_eq_true, br_f, ob_s, Bool.not_true, eq_ByteS, eq_IntS, eq_Win, eq_Ep, eq_Chan, eq_Addr, eq_Cand, eq_CandS, eq_Paths, eq_Sess, eq_ByteSS, eq_Jar, eq_Dice, eq_SessS, eq_Tab, eq_Credit, eq_CreditS, eq_Server, eq_Frame]
theorem sz_Client (d : YClient) (n : Int) (h0 : -1 ≤ n) (h1 : n ≤ 1099511627776) (hl : lo_Client d) : V_l_szClient d (n, ()) = some (szR (need_Client d) n, ()) := by
  unfold lo_Client at hl
  obtain ⟨hl0, hl1, hl2, hl3, hl4, hl5, hl6, hl7, hl8, hl9, hl10, hl11, hl12, hl13⟩ := hl
  unfold V_l_szClient T_l_szClient
  simp only [val_br, val_ob, val_leaf, val_chk, val_sm]
  simp (disch := first | omega | (dsimp only; omega) | exact szR_ge _ _ | exact szR_le (by omega) (by omega) | ((repeat' (first | assumption | apply And.intro)); done) | ((first | unfold lo_Client | unfold lo_Win | unfold lo_Ep | unfold lo_Chan | unfold lo_Addr | unfold lo_Cand | unfold lo_Paths | unfold lo_Sess | unfold lo_Jar | unfold lo_Dice | unfold lo_Tab | unfold lo_Credit | unfold lo_Server | unfold lo_Frame | unfold lo_Timer); dsimp only; (repeat' (first | assumption | apply And.intro)); done)) only [sz_ByteS, sz_IntS, sz_Win, sz_Ep, sz_Chan, sz_Cand, sz_CandS, sz_Paths, sz_Sess, sz_ByteSS, sz_Jar, sz_Dice, sz_SessS, sz_Tab, sz_CreditS, sz_Server, sz_Frame, ob_s, szR_szR]
  all_goals try simp (disch := first | omega | (simp only [need_Client, need_Win, need_Ep, need_Chan, need_Addr, need_Cand, need_Paths, need_Sess, need_Jar, need_Dice, need_Tab, need_Credit, need_Server, need_Frame, need_Timer]; omega)) only [brsz]
  all_goals (first | rfl | (refine congrArg (fun t => some (szR t n, ())) ?_; simp only [need_Client, need_Win, need_Ep, need_Chan, need_Addr, need_Cand, need_Paths, need_Sess, need_Jar, need_Dice, need_Tab, need_Credit, need_Server, need_Frame, need_Timer]; omega))
theorem to_Client (d : YClient) (h : need_Client d ≤ 4294967296) : V_l_toClient d = some d := by
  have hn : need_Client d = d.2.1.length + d.2.2.2.2.2.1.length + d.2.2.2.2.2.2.2.2.1.length + d.2.2.2.2.2.2.2.2.2.1.length + d.2.2.2.2.2.2.2.2.2.2.2.1.length + d.2.2.2.2.2.2.2.2.2.2.2.2.1.length + d.2.2.2.2.2.2.2.2.2.2.2.2.2.2.2.1.length + d.2.2.2.2.2.2.2.2.2.2.2.2.2.2.2.2.1.length + d.2.2.2.2.2.2.2.2.2.2.2.2.2.2.2.2.2.2.1.length + d.2.2.2.2.2.2.2.2.2.2.2.2.2.2.2.2.2.2.2.2.1.length + d.2.2.2.2.2.2.2.2.2.2.2.2.2.2.2.2.2.2.2.2.2.2.2.1.length + d.2.2.2.2.2.2.2.2.2.2.2.2.2.2.2.2.2.2.2.2.2.2.2.2.2.1.length + d.2.2.2.2.2.2.2.2.2.2.2.2.2.2.2.2.2.2.2.2.2.2.2.2.2.2.2.2.1.length + d.2.2.2.2.2.2.2.2.2.2.2.2.2.2.2.2.2.2.2.2.2.2.2.2.2.2.2.2.2.2.2.1.length := rfl
  unfold V_l_toClient T_l_toClient
  simp only [val_br, val_ob, val_leaf, val_chk, val_sm]
  simp (disch := first | omega | (simp only [need_Client, need_Win, need_Ep, need_Chan, need_Addr, need_Cand, need_Paths, need_Sess, need_Jar, need_Dice, need_Tab, need_Credit, need_Server, need_Frame, need_Timer]; omega)) only [to_ByteS, to_IntS, to_Win, to_Ep, to_Chan, to_Addr, to_Cand, to_CandS, to_Paths, to_Sess, to_ByteSS, to_Jar, to_Dice, to_SessS, to_Tab, to_Credit, to_CreditS, to_Server, to_Frame, to_Timer, ob_s]
  all_goals rfl
theorem eq_Client (d : YClient) (h : need_Client d ≤ 4294967296) : V_l_eqClient d d = some (true, ()) := by
  have hn : need_Client d = d.2.1.length + d.2.2.2.2.2.1.length + d.2.2.2.2.2.2.2.2.1.length + d.2.2.2.2.2.2.2.2.2.1.length + d.2.2.2.2.2.2.2.2.2.2.2.1.length + d.2.2.2.2.2.2.2.2.2.2.2.2.1.length + d.2.2.2.2.2.2.2.2.2.2.2.2.2.2.2.1.length + d.2.2.2.2.2.2.2.2.2.2.2.2.2.2.2.2.1.length + d.2.2.2.2.2.2.2.2.2.2.2.2.2.2.2.2.2.2.1.length + d.2.2.2.2.2.2.2.2.2.2.2.2.2.2.2.2.2.2.2.2.1.length + d.2.2.2.2.2.2.2.2.2.2.2.2.2.2.2.2.2.2.2.2.2.2.2.1.length + d.2.2.2.2.2.2.2.2.2.2.2.2.2.2.2.2.2.2.2.2.2.2.2.2.2.1.length + d.2.2.2.2.2.2.2.2.2.2.2.2.2.2.2.2.2.2.2.2.2.2.2.2.2.2.2.2.1.length + d.2.2.2.2.2.2.2.2.2.2.2.2.2.2.2.2.2.2.2.2.2.2.2.2.2.2.2.2.2.2.2.1.length := rfl
  unfold V_l_eqClient T_l_eqClient
  simp (disch := first | omega | (simp only [need_Client, need_Win, need_Ep, need_Chan, need_Addr, need_Cand, need_Paths, need_Sess, need_Jar, need_Dice, need_Tab, need_Credit, need_Server, need_Frame, need_Timer]; omega)) only [val_br, val_ob, val_leaf, val_chk, val_sm, bne_self, beq_self_eq_true, br_f, ob_s, Bool.not_true, eq_ByteS, eq_IntS, eq_Win, eq_Ep, eq_Chan, eq_Addr, eq_Cand, eq_CandS, eq_Paths, eq_Sess, eq_ByteSS, eq_Jar, eq_Dice, eq_SessS, eq_Tab, eq_Credit, eq_CreditS, eq_Server, eq_Frame, eq_Timer]
theorem mark_Client (d : YClient) (k : Int) (h0 : 0 ≤ k) (h1 : k + (wt_Client d : Nat) ≤ 4611686018427387904) (hl : need_Client d ≤ 4294967296) : V_l_markClient d (k, ()) = some ((k + (wt_Client d : Nat), ()), (d.1, mkL m_B w_B d.2.1 (k), d.2.2.1, d.2.2.2.1, d.2.2.2.2.1, mkL m_B w_B d.2.2.2.2.2.1 (k + (sumN w_B d.2.1 : Nat)), d.2.2.2.2.2.2.1, d.2.2.2.2.2.2.2.1, mkL m_B w_B d.2.2.2.2.2.2.2.2.1 (k + (sumN w_B d.2.1 : Nat) + (sumN w_B d.2.2.2.2.2.1 : Nat)), mkL m_B w_B d.2.2.2.2.2.2.2.2.2.1 (k + (sumN w_B d.2.1 : Nat) + (sumN w_B d.2.2.2.2.2.1 : Nat) + (sumN w_B d.2.2.2.2.2.2.2.2.1 : Nat)), d.2.2.2.2.2.2.2.2.2.2.1, mkL m_B w_B d.2.2.2.2.2.2.2.2.2.2.2.1 (k + (sumN w_B d.2.1 : Nat) + (sumN w_B d.2.2.2.2.2.1 : Nat) + (sumN w_B d.2.2.2.2.2.2.2.2.1 : Nat) + (sumN w_B d.2.2.2.2.2.2.2.2.2.1 : Nat)), mkL m_B w_B d.2.2.2.2.2.2.2.2.2.2.2.2.1 (k + (sumN w_B d.2.1 : Nat) + (sumN w_B d.2.2.2.2.2.1 : Nat) + (sumN w_B d.2.2.2.2.2.2.2.2.1 : Nat) + (sumN w_B d.2.2.2.2.2.2.2.2.2.1 : Nat) + (sumN w_B d.2.2.2.2.2.2.2.2.2.2.2.1 : Nat)), d.2.2.2.2.2.2.2.2.2.2.2.2.2.1, d.2.2.2.2.2.2.2.2.2.2.2.2.2.2.1, mkL m_B w_B d.2.2.2.2.2.2.2.2.2.2.2.2.2.2.2.1 (k + (sumN w_B d.2.1 : Nat) + (sumN w_B d.2.2.2.2.2.1 : Nat) + (sumN w_B d.2.2.2.2.2.2.2.2.1 : Nat) + (sumN w_B d.2.2.2.2.2.2.2.2.2.1 : Nat) + (sumN w_B d.2.2.2.2.2.2.2.2.2.2.2.1 : Nat) + (sumN w_B d.2.2.2.2.2.2.2.2.2.2.2.2.1 : Nat)), mkL m_B w_B d.2.2.2.2.2.2.2.2.2.2.2.2.2.2.2.2.1 (k + (sumN w_B d.2.1 : Nat) + (sumN w_B d.2.2.2.2.2.1 : Nat) + (sumN w_B d.2.2.2.2.2.2.2.2.1 : Nat) + (sumN w_B d.2.2.2.2.2.2.2.2.2.1 : Nat) + (sumN w_B d.2.2.2.2.2.2.2.2.2.2.2.1 : Nat) + (sumN w_B d.2.2.2.2.2.2.2.2.2.2.2.2.1 : Nat) + (sumN w_B d.2.2.2.2.2.2.2.2.2.2.2.2.2.2.2.1 : Nat)), d.2.2.2.2.2.2.2.2.2.2.2.2.2.2.2.2.2.1, mkL m_B w_B d.2.2.2.2.2.2.2.2.2.2.2.2.2.2.2.2.2.2.1 (k + (sumN w_B d.2.1 : Nat) + (sumN w_B d.2.2.2.2.2.1 : Nat) + (sumN w_B d.2.2.2.2.2.2.2.2.1 : Nat) + (sumN w_B d.2.2.2.2.2.2.2.2.2.1 : Nat) + (sumN w_B d.2.2.2.2.2.2.2.2.2.2.2.1 : Nat) + (sumN w_B d.2.2.2.2.2.2.2.2.2.2.2.2.1 : Nat) + (sumN w_B d.2.2.2.2.2.2.2.2.2.2.2.2.2.2.2.1 : Nat) + (sumN w_B d.2.2.2.2.2.2.2.2.2.2.2.2.2.2.2.2.1 : Nat)), d.2.2.2.2.2.2.2.2.2.2.2.2.2.2.2.2.2.2.2.1, mkL m_B w_B d.2.2.2.2.2.2.2.2.2.2.2.2.2.2.2.2.2.2.2.2.1 (k + (sumN w_B d.2.1 : Nat) + (sumN w_B d.2.2.2.2.2.1 : Nat) + (sumN w_B d.2.2.2.2.2.2.2.2.1 : Nat) + (sumN w_B d.2.2.2.2.2.2.2.2.2.1 : Nat) + (sumN w_B d.2.2.2.2.2.2.2.2.2.2.2.1 : Nat) + (sumN w_B d.2.2.2.2.2.2.2.2.2.2.2.2.1 : Nat) + (sumN w_B d.2.2.2.2.2.2.2.2.2.2.2.2.2.2.2.1 : Nat) + (sumN w_B d.2.2.2.2.2.2.2.2.2.2.2.2.2.2.2.2.1 : Nat) + (sumN w_B d.2.2.2.2.2.2.2.2.2.2.2.2.2.2.2.2.2.2.1 : Nat)), d.2.2.2.2.2.2.2.2.2.2.2.2.2.2.2.2.2.2.2.2.2.1, d.2.2.2.2.2.2.2.2.2.2.2.2.2.2.2.2.2.2.2.2.2.2.1, mkL m_I w_I d.2.2.2.2.2.2.2.2.2.2.2.2.2.2.2.2.2.2.2.2.2.2.2.1 (k + (sumN w_B d.2.1 : Nat) + (sumN w_B d.2.2.2.2.2.1 : Nat) + (sumN w_B d.2.2.2.2.2.2.2.2.1 : Nat) + (sumN w_B d.2.2.2.2.2.2.2.2.2.1 : Nat) + (sumN w_B d.2.2.2.2.2.2.2.2.2.2.2.1 : Nat) + (sumN w_B d.2.2.2.2.2.2.2.2.2.2.2.2.1 : Nat) + (sumN w_B d.2.2.2.2.2.2.2.2.2.2.2.2.2.2.2.1 : Nat) + (sumN w_B d.2.2.2.2.2.2.2.2.2.2.2.2.2.2.2.2.1 : Nat) + (sumN w_B d.2.2.2.2.2.2.2.2.2.2.2.2.2.2.2.2.2.2.1 : Nat) + (sumN w_B d.2.2.2.2.2.2.2.2.2.2.2.2.2.2.2.2.2.2.2.2.1 : Nat)), d.2.2.2.2.2.2.2.2.2.2.2.2.2.2.2.2.2.2.2.2.2.2.2.2.1, mkL m_B w_B d.2.2.2.2.2.2.2.2.2.2.2.2.2.2.2.2.2.2.2.2.2.2.2.2.2.1 (k + (sumN w_B d.2.1 : Nat) + (sumN w_B d.2.2.2.2.2.1 : Nat) + (sumN w_B d.2.2.2.2.2.2.2.2.1 : Nat) + (sumN w_B d.2.2.2.2.2.2.2.2.2.1 : Nat) + (sumN w_B d.2.2.2.2.2.2.2.2.2.2.2.1 : Nat) + (sumN w_B d.2.2.2.2.2.2.2.2.2.2.2.2.1 : Nat) + (sumN w_B d.2.2.2.2.2.2.2.2.2.2.2.2.2.2.2.1 : Nat) + (sumN w_B d.2.2.2.2.2.2.2.2.2.2.2.2.2.2.2.2.1 : Nat) + (sumN w_B d.2.2.2.2.2.2.2.2.2.2.2.2.2.2.2.2.2.2.1 : Nat) + (sumN w_B d.2.2.2.2.2.2.2.2.2.2.2.2.2.2.2.2.2.2.2.2.1 : Nat) + (sumN w_I d.2.2.2.2.2.2.2.2.2.2.2.2.2.2.2.2.2.2.2.2.2.2.2.1 : Nat)), d.2.2.2.2.2.2.2.2.2.2.2.2.2.2.2.2.2.2.2.2.2.2.2.2.2.2.1, d.2.2.2.2.2.2.2.2.2.2.2.2.2.2.2.2.2.2.2.2.2.2.2.2.2.2.2.1, mkL m_I w_I d.2.2.2.2.2.2.2.2.2.2.2.2.2.2.2.2.2.2.2.2.2.2.2.2.2.2.2.2.1 (k + (sumN w_B d.2.1 : Nat) + (sumN w_B d.2.2.2.2.2.1 : Nat) + (sumN w_B d.2.2.2.2.2.2.2.2.1 : Nat) + (sumN w_B d.2.2.2.2.2.2.2.2.2.1 : Nat) + (sumN w_B d.2.2.2.2.2.2.2.2.2.2.2.1 : Nat) + (sumN w_B d.2.2.2.2.2.2.2.2.2.2.2.2.1 : Nat) + (sumN w_B d.2.2.2.2.2.2.2.2.2.2.2.2.2.2.2.1 : Nat) + (sumN w_B d.2.2.2.2.2.2.2.2.2.2.2.2.2.2.2.2.1 : Nat) + (sumN w_B d.2.2.2.2.2.2.2.2.2.2.2.2.2.2.2.2.2.2.1 : Nat) + (sumN w_B d.2.2.2.2.2.2.2.2.2.2.2.2.2.2.2.2.2.2.2.2.1 : Nat) + (sumN w_I d.2.2.2.2.2.2.2.2.2.2.2.2.2.2.2.2.2.2.2.2.2.2.2.1 : Nat) + (sumN w_B d.2.2.2.2.2.2.2.2.2.2.2.2.2.2.2.2.2.2.2.2.2.2.2.2.2.1 : Nat)), d.2.2.2.2.2.2.2.2.2.2.2.2.2.2.2.2.2.2.2.2.2.2.2.2.2.2.2.2.2.1, d.2.2.2.2.2.2.2.2.2.2.2.2.2.2.2.2.2.2.2.2.2.2.2.2.2.2.2.2.2.2.1, mkL m_B w_B d.2.2.2.2.2.2.2.2.2.2.2.2.2.2.2.2.2.2.2.2.2.2.2.2.2.2.2.2.2.2.2.1 (k + (sumN w_B d.2.1 : Nat) + (sumN w_B d.2.2.2.2.2.1 : Nat) + (sumN w_B d.2.2.2.2.2.2.2.2.1 : Nat) + (sumN w_B d.2.2.2.2.2.2.2.2.2.1 : Nat) + (sumN w_B d.2.2.2.2.2.2.2.2.2.2.2.1 : Nat) + (sumN w_B d.2.2.2.2.2.2.2.2.2.2.2.2.1 : Nat) + (sumN w_B d.2.2.2.2.2.2.2.2.2.2.2.2.2.2.2.1 : Nat) + (sumN w_B d.2.2.2.2.2.2.2.2.2.2.2.2.2.2.2.2.1 : Nat) + (sumN w_B d.2.2.2.2.2.2.2.2.2.2.2.2.2.2.2.2.2.2.1 : Nat) + (sumN w_B d.2.2.2.2.2.2.2.2.2.2.2.2.2.2.2.2.2.2.2.2.1 : Nat) + (sumN w_I d.2.2.2.2.2.2.2.2.2.2.2.2.2.2.2.2.2.2.2.2.2.2.2.1 : Nat) + (sumN w_B d.2.2.2.2.2.2.2.2.2.2.2.2.2.2.2.2.2.2.2.2.2.2.2.2.2.1 : Nat) + (sumN w_I d.2.2.2.2.2.2.2.2.2.2.2.2.2.2.2.2.2.2.2.2.2.2.2.2.2.2.2.2.1 : Nat)), d.2.2.2.2.2.2.2.2.2.2.2.2.2.2.2.2.2.2.2.2.2.2.2.2.2.2.2.2.2.2.2.2.1, d.2.2.2.2.2.2.2.2.2.2.2.2.2.2.2.2.2.2.2.2.2.2.2.2.2.2.2.2.2.2.2.2.2.1, d.2.2.2.2.2.2.2.2.2.2.2.2.2.2.2.2.2.2.2.2.2.2.2.2.2.2.2.2.2.2.2.2.2.2.1, d.2.2.2.2.2.2.2.2.2.2.2.2.2.2.2.2.2.2.2.2.2.2.2.2.2.2.2.2.2.2.2.2.2.2.2.1, d.2.2.2.2.2.2.2.2.2.2.2.2.2.2.2.2.2.2.2.2.2.2.2.2.2.2.2.2.2.2.2.2.2.2.2.2.1, d.2.2.2.2.2.2.2.2.2.2.2.2.2.2.2.2.2.2.2.2.2.2.2.2.2.2.2.2.2.2.2.2.2.2.2.2.2.1, d.2.2.2.2.2.2.2.2.2.2.2.2.2.2.2.2.2.2.2.2.2.2.2.2.2.2.2.2.2.2.2.2.2.2.2.2.2.2.1, d.2.2.2.2.2.2.2.2.2.2.2.2.2.2.2.2.2.2.2.2.2.2.2.2.2.2.2.2.2.2.2.2.2.2.2.2.2.2.2.1, d.2.2.2.2.2.2.2.2.2.2.2.2.2.2.2.2.2.2.2.2.2.2.2.2.2.2.2.2.2.2.2.2.2.2.2.2.2.2.2.2.1, ())) := by
  have hn : need_Client d = d.2.1.length + d.2.2.2.2.2.1.length + d.2.2.2.2.2.2.2.2.1.length + d.2.2.2.2.2.2.2.2.2.1.length + d.2.2.2.2.2.2.2.2.2.2.2.1.length + d.2.2.2.2.2.2.2.2.2.2.2.2.1.length + d.2.2.2.2.2.2.2.2.2.2.2.2.2.2.2.1.length + d.2.2.2.2.2.2.2.2.2.2.2.2.2.2.2.2.1.length + d.2.2.2.2.2.2.2.2.2.2.2.2.2.2.2.2.2.2.1.length + d.2.2.2.2.2.2.2.2.2.2.2.2.2.2.2.2.2.2.2.2.1.length + d.2.2.2.2.2.2.2.2.2.2.2.2.2.2.2.2.2.2.2.2.2.2.2.1.length + d.2.2.2.2.2.2.2.2.2.2.2.2.2.2.2.2.2.2.2.2.2.2.2.2.2.1.length + d.2.2.2.2.2.2.2.2.2.2.2.2.2.2.2.2.2.2.2.2.2.2.2.2.2.2.2.2.1.length + d.2.2.2.2.2.2.2.2.2.2.2.2.2.2.2.2.2.2.2.2.2.2.2.2.2.2.2.2.2.2.2.1.length := rfl
  have hw : wt_Client d = sumN w_B d.2.1 + sumN w_B d.2.2.2.2.2.1 + sumN w_B d.2.2.2.2.2.2.2.2.1 + sumN w_B d.2.2.2.2.2.2.2.2.2.1 + sumN w_B d.2.2.2.2.2.2.2.2.2.2.2.1 + sumN w_B d.2.2.2.2.2.2.2.2.2.2.2.2.1 + sumN w_B d.2.2.2.2.2.2.2.2.2.2.2.2.2.2.2.1 + sumN w_B d.2.2.2.2.2.2.2.2.2.2.2.2.2.2.2.2.1 + sumN w_B d.2.2.2.2.2.2.2.2.2.2.2.2.2.2.2.2.2.2.1 + sumN w_B d.2.2.2.2.2.2.2.2.2.2.2.2.2.2.2.2.2.2.2.2.1 + sumN w_I d.2.2.2.2.2.2.2.2.2.2.2.2.2.2.2.2.2.2.2.2.2.2.2.1 + sumN w_B d.2.2.2.2.2.2.2.2.2.2.2.2.2.2.2.2.2.2.2.2.2.2.2.2.2.1 + sumN w_I d.2.2.2.2.2.2.2.2.2.2.2.2.2.2.2.2.2.2.2.2.2.2.2.2.2.2.2.2.1 + sumN w_B d.2.2.2.2.2.2.2.2.2.2.2.2.2.2.2.2.2.2.2.2.2.2.2.2.2.2.2.2.2.2.2.1 := rfl
  have hk : k + ((wt_Client d : Nat) : Int) = k + (sumN w_B d.2.1 : Nat) + (sumN w_B d.2.2.2.2.2.1 : Nat) + (sumN w_B d.2.2.2.2.2.2.2.2.1 : Nat) + (sumN w_B d.2.2.2.2.2.2.2.2.2.1 : Nat) + (sumN w_B d.2.2.2.2.2.2.2.2.2.2.2.1 : Nat) + (sumN w_B d.2.2.2.2.2.2.2.2.2.2.2.2.1 : Nat) + (sumN w_B d.2.2.2.2.2.2.2.2.2.2.2.2.2.2.2.1 : Nat) + (sumN w_B d.2.2.2.2.2.2.2.2.2.2.2.2.2.2.2.2.1 : Nat) + (sumN w_B d.2.2.2.2.2.2.2.2.2.2.2.2.2.2.2.2.2.2.1 : Nat) + (sumN w_B d.2.2.2.2.2.2.2.2.2.2.2.2.2.2.2.2.2.2.2.2.1 : Nat) + (sumN w_I d.2.2.2.2.2.2.2.2.2.2.2.2.2.2.2.2.2.2.2.2.2.2.2.1 : Nat) + (sumN w_B d.2.2.2.2.2.2.2.2.2.2.2.2.2.2.2.2.2.2.2.2.2.2.2.2.2.1 : Nat) + (sumN w_I d.2.2.2.2.2.2.2.2.2.2.2.2.2.2.2.2.2.2.2.2.2.2.2.2.2.2.2.2.1 : Nat) + (sumN w_B d.2.2.2.2.2.2.2.2.2.2.2.2.2.2.2.2.2.2.2.2.2.2.2.2.2.2.2.2.2.2.2.1 : Nat) := by simp only [wt_Client]; all_goals omega
  rw [hk]
  unfold V_l_markClient T_l_markClient
  simp (maxSteps := 4000000) (disch := first | omega | (dsimp only; omega) | (simp only [need_Frame, wt_Frame, need_Chan, wt_Chan, Int.natCast_add]; omega)) only [val_br, val_ob, val_leaf, val_chk, val_sm, ob_s, mark_ByteS, mark_IntS, mark_Win, mark_Ep, mark_Chan, mark_CandS, mark_Paths, mark_Sess, mark_Frame, wt_Frame, wt_Chan, Int.natCast_add, ← Int.add_assoc]
theorem held_Client (d : YClient) (k : Int) (h0 : 0 ≤ k) (h1 : k + (wt_Client d : Nat) ≤ 4611686018427387904) (hl : need_Client d ≤ 4294967296) : V_l_heldClient (d.1, mkL m_B w_B d.2.1 (k), d.2.2.1, d.2.2.2.1, d.2.2.2.2.1, mkL m_B w_B d.2.2.2.2.2.1 (k + (sumN w_B d.2.1 : Nat)), d.2.2.2.2.2.2.1, d.2.2.2.2.2.2.2.1, mkL m_B w_B d.2.2.2.2.2.2.2.2.1 (k + (sumN w_B d.2.1 : Nat) + (sumN w_B d.2.2.2.2.2.1 : Nat)), mkL m_B w_B d.2.2.2.2.2.2.2.2.2.1 (k + (sumN w_B d.2.1 : Nat) + (sumN w_B d.2.2.2.2.2.1 : Nat) + (sumN w_B d.2.2.2.2.2.2.2.2.1 : Nat)), d.2.2.2.2.2.2.2.2.2.2.1, mkL m_B w_B d.2.2.2.2.2.2.2.2.2.2.2.1 (k + (sumN w_B d.2.1 : Nat) + (sumN w_B d.2.2.2.2.2.1 : Nat) + (sumN w_B d.2.2.2.2.2.2.2.2.1 : Nat) + (sumN w_B d.2.2.2.2.2.2.2.2.2.1 : Nat)), mkL m_B w_B d.2.2.2.2.2.2.2.2.2.2.2.2.1 (k + (sumN w_B d.2.1 : Nat) + (sumN w_B d.2.2.2.2.2.1 : Nat) + (sumN w_B d.2.2.2.2.2.2.2.2.1 : Nat) + (sumN w_B d.2.2.2.2.2.2.2.2.2.1 : Nat) + (sumN w_B d.2.2.2.2.2.2.2.2.2.2.2.1 : Nat)), d.2.2.2.2.2.2.2.2.2.2.2.2.2.1, d.2.2.2.2.2.2.2.2.2.2.2.2.2.2.1, mkL m_B w_B d.2.2.2.2.2.2.2.2.2.2.2.2.2.2.2.1 (k + (sumN w_B d.2.1 : Nat) + (sumN w_B d.2.2.2.2.2.1 : Nat) + (sumN w_B d.2.2.2.2.2.2.2.2.1 : Nat) + (sumN w_B d.2.2.2.2.2.2.2.2.2.1 : Nat) + (sumN w_B d.2.2.2.2.2.2.2.2.2.2.2.1 : Nat) + (sumN w_B d.2.2.2.2.2.2.2.2.2.2.2.2.1 : Nat)), mkL m_B w_B d.2.2.2.2.2.2.2.2.2.2.2.2.2.2.2.2.1 (k + (sumN w_B d.2.1 : Nat) + (sumN w_B d.2.2.2.2.2.1 : Nat) + (sumN w_B d.2.2.2.2.2.2.2.2.1 : Nat) + (sumN w_B d.2.2.2.2.2.2.2.2.2.1 : Nat) + (sumN w_B d.2.2.2.2.2.2.2.2.2.2.2.1 : Nat) + (sumN w_B d.2.2.2.2.2.2.2.2.2.2.2.2.1 : Nat) + (sumN w_B d.2.2.2.2.2.2.2.2.2.2.2.2.2.2.2.1 : Nat)), d.2.2.2.2.2.2.2.2.2.2.2.2.2.2.2.2.2.1, mkL m_B w_B d.2.2.2.2.2.2.2.2.2.2.2.2.2.2.2.2.2.2.1 (k + (sumN w_B d.2.1 : Nat) + (sumN w_B d.2.2.2.2.2.1 : Nat) + (sumN w_B d.2.2.2.2.2.2.2.2.1 : Nat) + (sumN w_B d.2.2.2.2.2.2.2.2.2.1 : Nat) + (sumN w_B d.2.2.2.2.2.2.2.2.2.2.2.1 : Nat) + (sumN w_B d.2.2.2.2.2.2.2.2.2.2.2.2.1 : Nat) + (sumN w_B d.2.2.2.2.2.2.2.2.2.2.2.2.2.2.2.1 : Nat) + (sumN w_B d.2.2.2.2.2.2.2.2.2.2.2.2.2.2.2.2.1 : Nat)), d.2.2.2.2.2.2.2.2.2.2.2.2.2.2.2.2.2.2.2.1, mkL m_B w_B d.2.2.2.2.2.2.2.2.2.2.2.2.2.2.2.2.2.2.2.2.1 (k + (sumN w_B d.2.1 : Nat) + (sumN w_B d.2.2.2.2.2.1 : Nat) + (sumN w_B d.2.2.2.2.2.2.2.2.1 : Nat) + (sumN w_B d.2.2.2.2.2.2.2.2.2.1 : Nat) + (sumN w_B d.2.2.2.2.2.2.2.2.2.2.2.1 : Nat) + (sumN w_B d.2.2.2.2.2.2.2.2.2.2.2.2.1 : Nat) + (sumN w_B d.2.2.2.2.2.2.2.2.2.2.2.2.2.2.2.1 : Nat) + (sumN w_B d.2.2.2.2.2.2.2.2.2.2.2.2.2.2.2.2.1 : Nat) + (sumN w_B d.2.2.2.2.2.2.2.2.2.2.2.2.2.2.2.2.2.2.1 : Nat)), d.2.2.2.2.2.2.2.2.2.2.2.2.2.2.2.2.2.2.2.2.2.1, d.2.2.2.2.2.2.2.2.2.2.2.2.2.2.2.2.2.2.2.2.2.2.1, mkL m_I w_I d.2.2.2.2.2.2.2.2.2.2.2.2.2.2.2.2.2.2.2.2.2.2.2.1 (k + (sumN w_B d.2.1 : Nat) + (sumN w_B d.2.2.2.2.2.1 : Nat) + (sumN w_B d.2.2.2.2.2.2.2.2.1 : Nat) + (sumN w_B d.2.2.2.2.2.2.2.2.2.1 : Nat) + (sumN w_B d.2.2.2.2.2.2.2.2.2.2.2.1 : Nat) + (sumN w_B d.2.2.2.2.2.2.2.2.2.2.2.2.1 : Nat) + (sumN w_B d.2.2.2.2.2.2.2.2.2.2.2.2.2.2.2.1 : Nat) + (sumN w_B d.2.2.2.2.2.2.2.2.2.2.2.2.2.2.2.2.1 : Nat) + (sumN w_B d.2.2.2.2.2.2.2.2.2.2.2.2.2.2.2.2.2.2.1 : Nat) + (sumN w_B d.2.2.2.2.2.2.2.2.2.2.2.2.2.2.2.2.2.2.2.2.1 : Nat)), d.2.2.2.2.2.2.2.2.2.2.2.2.2.2.2.2.2.2.2.2.2.2.2.2.1, mkL m_B w_B d.2.2.2.2.2.2.2.2.2.2.2.2.2.2.2.2.2.2.2.2.2.2.2.2.2.1 (k + (sumN w_B d.2.1 : Nat) + (sumN w_B d.2.2.2.2.2.1 : Nat) + (sumN w_B d.2.2.2.2.2.2.2.2.1 : Nat) + (sumN w_B d.2.2.2.2.2.2.2.2.2.1 : Nat) + (sumN w_B d.2.2.2.2.2.2.2.2.2.2.2.1 : Nat) + (sumN w_B d.2.2.2.2.2.2.2.2.2.2.2.2.1 : Nat) + (sumN w_B d.2.2.2.2.2.2.2.2.2.2.2.2.2.2.2.1 : Nat) + (sumN w_B d.2.2.2.2.2.2.2.2.2.2.2.2.2.2.2.2.1 : Nat) + (sumN w_B d.2.2.2.2.2.2.2.2.2.2.2.2.2.2.2.2.2.2.1 : Nat) + (sumN w_B d.2.2.2.2.2.2.2.2.2.2.2.2.2.2.2.2.2.2.2.2.1 : Nat) + (sumN w_I d.2.2.2.2.2.2.2.2.2.2.2.2.2.2.2.2.2.2.2.2.2.2.2.1 : Nat)), d.2.2.2.2.2.2.2.2.2.2.2.2.2.2.2.2.2.2.2.2.2.2.2.2.2.2.1, d.2.2.2.2.2.2.2.2.2.2.2.2.2.2.2.2.2.2.2.2.2.2.2.2.2.2.2.1, mkL m_I w_I d.2.2.2.2.2.2.2.2.2.2.2.2.2.2.2.2.2.2.2.2.2.2.2.2.2.2.2.2.1 (k + (sumN w_B d.2.1 : Nat) + (sumN w_B d.2.2.2.2.2.1 : Nat) + (sumN w_B d.2.2.2.2.2.2.2.2.1 : Nat) + (sumN w_B d.2.2.2.2.2.2.2.2.2.1 : Nat) + (sumN w_B d.2.2.2.2.2.2.2.2.2.2.2.1 : Nat) + (sumN w_B d.2.2.2.2.2.2.2.2.2.2.2.2.1 : Nat) + (sumN w_B d.2.2.2.2.2.2.2.2.2.2.2.2.2.2.2.1 : Nat) + (sumN w_B d.2.2.2.2.2.2.2.2.2.2.2.2.2.2.2.2.1 : Nat) + (sumN w_B d.2.2.2.2.2.2.2.2.2.2.2.2.2.2.2.2.2.2.1 : Nat) + (sumN w_B d.2.2.2.2.2.2.2.2.2.2.2.2.2.2.2.2.2.2.2.2.1 : Nat) + (sumN w_I d.2.2.2.2.2.2.2.2.2.2.2.2.2.2.2.2.2.2.2.2.2.2.2.1 : Nat) + (sumN w_B d.2.2.2.2.2.2.2.2.2.2.2.2.2.2.2.2.2.2.2.2.2.2.2.2.2.1 : Nat)), d.2.2.2.2.2.2.2.2.2.2.2.2.2.2.2.2.2.2.2.2.2.2.2.2.2.2.2.2.2.1, d.2.2.2.2.2.2.2.2.2.2.2.2.2.2.2.2.2.2.2.2.2.2.2.2.2.2.2.2.2.2.1, mkL m_B w_B d.2.2.2.2.2.2.2.2.2.2.2.2.2.2.2.2.2.2.2.2.2.2.2.2.2.2.2.2.2.2.2.1 (k + (sumN w_B d.2.1 : Nat) + (sumN w_B d.2.2.2.2.2.1 : Nat) + (sumN w_B d.2.2.2.2.2.2.2.2.1 : Nat) + (sumN w_B d.2.2.2.2.2.2.2.2.2.1 : Nat) + (sumN w_B d.2.2.2.2.2.2.2.2.2.2.2.1 : Nat) + (sumN w_B d.2.2.2.2.2.2.2.2.2.2.2.2.1 : Nat) + (sumN w_B d.2.2.2.2.2.2.2.2.2.2.2.2.2.2.2.1 : Nat) + (sumN w_B d.2.2.2.2.2.2.2.2.2.2.2.2.2.2.2.2.1 : Nat) + (sumN w_B d.2.2.2.2.2.2.2.2.2.2.2.2.2.2.2.2.2.2.1 : Nat) + (sumN w_B d.2.2.2.2.2.2.2.2.2.2.2.2.2.2.2.2.2.2.2.2.1 : Nat) + (sumN w_I d.2.2.2.2.2.2.2.2.2.2.2.2.2.2.2.2.2.2.2.2.2.2.2.1 : Nat) + (sumN w_B d.2.2.2.2.2.2.2.2.2.2.2.2.2.2.2.2.2.2.2.2.2.2.2.2.2.1 : Nat) + (sumN w_I d.2.2.2.2.2.2.2.2.2.2.2.2.2.2.2.2.2.2.2.2.2.2.2.2.2.2.2.2.1 : Nat)), d.2.2.2.2.2.2.2.2.2.2.2.2.2.2.2.2.2.2.2.2.2.2.2.2.2.2.2.2.2.2.2.2.1, d.2.2.2.2.2.2.2.2.2.2.2.2.2.2.2.2.2.2.2.2.2.2.2.2.2.2.2.2.2.2.2.2.2.1, d.2.2.2.2.2.2.2.2.2.2.2.2.2.2.2.2.2.2.2.2.2.2.2.2.2.2.2.2.2.2.2.2.2.2.1, d.2.2.2.2.2.2.2.2.2.2.2.2.2.2.2.2.2.2.2.2.2.2.2.2.2.2.2.2.2.2.2.2.2.2.2.1, d.2.2.2.2.2.2.2.2.2.2.2.2.2.2.2.2.2.2.2.2.2.2.2.2.2.2.2.2.2.2.2.2.2.2.2.2.1, d.2.2.2.2.2.2.2.2.2.2.2.2.2.2.2.2.2.2.2.2.2.2.2.2.2.2.2.2.2.2.2.2.2.2.2.2.2.1, d.2.2.2.2.2.2.2.2.2.2.2.2.2.2.2.2.2.2.2.2.2.2.2.2.2.2.2.2.2.2.2.2.2.2.2.2.2.2.1, d.2.2.2.2.2.2.2.2.2.2.2.2.2.2.2.2.2.2.2.2.2.2.2.2.2.2.2.2.2.2.2.2.2.2.2.2.2.2.2.1, d.2.2.2.2.2.2.2.2.2.2.2.2.2.2.2.2.2.2.2.2.2.2.2.2.2.2.2.2.2.2.2.2.2.2.2.2.2.2.2.2.1, ()) (k, ()) = some (k + (wt_Client d : Nat), ()) := by
  have hn : need_Client d = d.2.1.length + d.2.2.2.2.2.1.length + d.2.2.2.2.2.2.2.2.1.length + d.2.2.2.2.2.2.2.2.2.1.length + d.2.2.2.2.2.2.2.2.2.2.2.1.length + d.2.2.2.2.2.2.2.2.2.2.2.2.1.length + d.2.2.2.2.2.2.2.2.2.2.2.2.2.2.2.1.length + d.2.2.2.2.2.2.2.2.2.2.2.2.2.2.2.2.1.length + d.2.2.2.2.2.2.2.2.2.2.2.2.2.2.2.2.2.2.1.length + d.2.2.2.2.2.2.2.2.2.2.2.2.2.2.2.2.2.2.2.2.1.length + d.2.2.2.2.2.2.2.2.2.2.2.2.2.2.2.2.2.2.2.2.2.2.2.1.length + d.2.2.2.2.2.2.2.2.2.2.2.2.2.2.2.2.2.2.2.2.2.2.2.2.2.1.length + d.2.2.2.2.2.2.2.2.2.2.2.2.2.2.2.2.2.2.2.2.2.2.2.2.2.2.2.2.1.length + d.2.2.2.2.2.2.2.2.2.2.2.2.2.2.2.2.2.2.2.2.2.2.2.2.2.2.2.2.2.2.2.1.length := rfl
  have hw : wt_Client d = sumN w_B d.2.1 + sumN w_B d.2.2.2.2.2.1 + sumN w_B d.2.2.2.2.2.2.2.2.1 + sumN w_B d.2.2.2.2.2.2.2.2.2.1 + sumN w_B d.2.2.2.2.2.2.2.2.2.2.2.1 + sumN w_B d.2.2.2.2.2.2.2.2.2.2.2.2.1 + sumN w_B d.2.2.2.2.2.2.2.2.2.2.2.2.2.2.2.1 + sumN w_B d.2.2.2.2.2.2.2.2.2.2.2.2.2.2.2.2.1 + sumN w_B d.2.2.2.2.2.2.2.2.2.2.2.2.2.2.2.2.2.2.1 + sumN w_B d.2.2.2.2.2.2.2.2.2.2.2.2.2.2.2.2.2.2.2.2.1 + sumN w_I d.2.2.2.2.2.2.2.2.2.2.2.2.2.2.2.2.2.2.2.2.2.2.2.1 + sumN w_B d.2.2.2.2.2.2.2.2.2.2.2.2.2.2.2.2.2.2.2.2.2.2.2.2.2.1 + sumN w_I d.2.2.2.2.2.2.2.2.2.2.2.2.2.2.2.2.2.2.2.2.2.2.2.2.2.2.2.2.1 + sumN w_B d.2.2.2.2.2.2.2.2.2.2.2.2.2.2.2.2.2.2.2.2.2.2.2.2.2.2.2.2.2.2.2.1 := rfl
  have hk : k + ((wt_Client d : Nat) : Int) = k + (sumN w_B d.2.1 : Nat) + (sumN w_B d.2.2.2.2.2.1 : Nat) + (sumN w_B d.2.2.2.2.2.2.2.2.1 : Nat) + (sumN w_B d.2.2.2.2.2.2.2.2.2.1 : Nat) + (sumN w_B d.2.2.2.2.2.2.2.2.2.2.2.1 : Nat) + (sumN w_B d.2.2.2.2.2.2.2.2.2.2.2.2.1 : Nat) + (sumN w_B d.2.2.2.2.2.2.2.2.2.2.2.2.2.2.2.1 : Nat) + (sumN w_B d.2.2.2.2.2.2.2.2.2.2.2.2.2.2.2.2.1 : Nat) + (sumN w_B d.2.2.2.2.2.2.2.2.2.2.2.2.2.2.2.2.2.2.1 : Nat) + (sumN w_B d.2.2.2.2.2.2.2.2.2.2.2.2.2.2.2.2.2.2.2.2.1 : Nat) + (sumN w_I d.2.2.2.2.2.2.2.2.2.2.2.2.2.2.2.2.2.2.2.2.2.2.2.1 : Nat) + (sumN w_B d.2.2.2.2.2.2.2.2.2.2.2.2.2.2.2.2.2.2.2.2.2.2.2.2.2.1 : Nat) + (sumN w_I d.2.2.2.2.2.2.2.2.2.2.2.2.2.2.2.2.2.2.2.2.2.2.2.2.2.2.2.2.1 : Nat) + (sumN w_B d.2.2.2.2.2.2.2.2.2.2.2.2.2.2.2.2.2.2.2.2.2.2.2.2.2.2.2.2.2.2.2.1 : Nat) := by simp only [wt_Client]; all_goals omega
  rw [hk]
  unfold V_l_heldClient T_l_heldClient
  simp (maxSteps := 4000000) (disch := first | omega | (dsimp only; omega) | (simp only [need_Frame, wt_Frame, need_Chan, wt_Chan, Int.natCast_add]; omega)) only [val_br, val_ob, val_leaf, val_chk, val_sm, ob_s, br_f, nn_dec, held_ByteS, held_IntS, held_Win, held_Ep, held_Chan, held_CandS, held_Paths, held_Sess, held_Frame, wt_Frame, wt_Chan, Int.natCast_add, ← Int.add_assoc, heldc_Frame, heldc_Chan]
theorem heldc_Client (c0 : Int) (c1 : List YB) (c2 : Int) (c3 : Int) (c4 : Int) (c5 : List YB) (c6 : Int) (c7 : Int) (c8 : List YB) (c9 : List YB) (c10 : Int) (c11 : List YB) (c12 : List YB) (c13 : Int) (c14 : Int) (c15 : List YB) (c16 : List YB) (c17 : Int) (c18 : List YB) (c19 : Int) (c20 : List YB) (c21 : Int) (c22 : Int) (c23 : List YI) (c24 : Int) (c25 : List YB) (c26 : Int) (c27 : Int) (c28 : List YI) (c29 : Bool) (c30 : Int) (c31 : List YB) (c32 : Bool) (c33 : Int) (c34 : Int) (c35 : Int) (c36 : Bool) (c37 : Int) (c38 : Int) (c39 : Int) (c40 : Int) (k : Int) (h0 : 0 ≤ k) (h1 : k + (wt_Client (c0, c1, c2, c3, c4, c5, c6, c7, c8, c9, c10, c11, c12, c13, c14, c15, c16, c17, c18, c19, c20, c21, c22, c23, c24, c25, c26, c27, c28, c29, c30, c31, c32, c33, c34, c35, c36, c37, c38, c39, c40, ()) : Nat) ≤ 4611686018427387904) (hl : need_Client (c0, c1, c2, c3, c4, c5, c6, c7, c8, c9, c10, c11, c12, c13, c14, c15, c16, c17, c18, c19, c20, c21, c22, c23, c24, c25, c26, c27, c28, c29, c30, c31, c32, c33, c34, c35, c36, c37, c38, c39, c40, ()) ≤ 4294967296) : V_l_heldClient (c0, mkL m_B w_B c1 (k), c2, c3, c4, mkL m_B w_B c5 (k + (sumN w_B c1 : Nat)), c6, c7, mkL m_B w_B c8 (k + (sumN w_B c1 : Nat) + (sumN w_B c5 : Nat)), mkL m_B w_B c9 (k + (sumN w_B c1 : Nat) + (sumN w_B c5 : Nat) + (sumN w_B c8 : Nat)), c10, mkL m_B w_B c11 (k + (sumN w_B c1 : Nat) + (sumN w_B c5 : Nat) + (sumN w_B c8 : Nat) + (sumN w_B c9 : Nat)), mkL m_B w_B c12 (k + (sumN w_B c1 : Nat) + (sumN w_B c5 : Nat) + (sumN w_B c8 : Nat) + (sumN w_B c9 : Nat) + (sumN w_B c11 : Nat)), c13, c14, mkL m_B w_B c15 (k + (sumN w_B c1 : Nat) + (sumN w_B c5 : Nat) + (sumN w_B c8 : Nat) + (sumN w_B c9 : Nat) + (sumN w_B c11 : Nat) + (sumN w_B c12 : Nat)), mkL m_B w_B c16 (k + (sumN w_B c1 : Nat) + (sumN w_B c5 : Nat) + (sumN w_B c8 : Nat) + (sumN w_B c9 : Nat) + (sumN w_B c11 : Nat) + (sumN w_B c12 : Nat) + (sumN w_B c15 : Nat)), c17, mkL m_B w_B c18 (k + (sumN w_B c1 : Nat) + (sumN w_B c5 : Nat) + (sumN w_B c8 : Nat) + (sumN w_B c9 : Nat) + (sumN w_B c11 : Nat) + (sumN w_B c12 : Nat) + (sumN w_B c15 : Nat) + (sumN w_B c16 : Nat)), c19, mkL m_B w_B c20 (k + (sumN w_B c1 : Nat) + (sumN w_B c5 : Nat) + (sumN w_B c8 : Nat) + (sumN w_B c9 : Nat) + (sumN w_B c11 : Nat) + (sumN w_B c12 : Nat) + (sumN w_B c15 : Nat) + (sumN w_B c16 : Nat) + (sumN w_B c18 : Nat)), c21, c22, mkL m_I w_I c23 (k + (sumN w_B c1 : Nat) + (sumN w_B c5 : Nat) + (sumN w_B c8 : Nat) + (sumN w_B c9 : Nat) + (sumN w_B c11 : Nat) + (sumN w_B c12 : Nat) + (sumN w_B c15 : Nat) + (sumN w_B c16 : Nat) + (sumN w_B c18 : Nat) + (sumN w_B c20 : Nat)), c24, mkL m_B w_B c25 (k + (sumN w_B c1 : Nat) + (sumN w_B c5 : Nat) + (sumN w_B c8 : Nat) + (sumN w_B c9 : Nat) + (sumN w_B c11 : Nat) + (sumN w_B c12 : Nat) + (sumN w_B c15 : Nat) + (sumN w_B c16 : Nat) + (sumN w_B c18 : Nat) + (sumN w_B c20 : Nat) + (sumN w_I c23 : Nat)), c26, c27, mkL m_I w_I c28 (k + (sumN w_B c1 : Nat) + (sumN w_B c5 : Nat) + (sumN w_B c8 : Nat) + (sumN w_B c9 : Nat) + (sumN w_B c11 : Nat) + (sumN w_B c12 : Nat) + (sumN w_B c15 : Nat) + (sumN w_B c16 : Nat) + (sumN w_B c18 : Nat) + (sumN w_B c20 : Nat) + (sumN w_I c23 : Nat) + (sumN w_B c25 : Nat)), c29, c30, mkL m_B w_B c31 (k + (sumN w_B c1 : Nat) + (sumN w_B c5 : Nat) + (sumN w_B c8 : Nat) + (sumN w_B c9 : Nat) + (sumN w_B c11 : Nat) + (sumN w_B c12 : Nat) + (sumN w_B c15 : Nat) + (sumN w_B c16 : Nat) + (sumN w_B c18 : Nat) + (sumN w_B c20 : Nat) + (sumN w_I c23 : Nat) + (sumN w_B c25 : Nat) + (sumN w_I c28 : Nat)), c32, c33, c34, c35, c36, c37, c38, c39, c40, ()) (k, ()) = some (k + (wt_Client (c0, c1, c2, c3, c4, c5, c6, c7, c8, c9, c10, c11, c12, c13, c14, c15, c16, c17, c18, c19, c20, c21, c22, c23, c24, c25, c26, c27, c28, c29, c30, c31, c32, c33, c34, c35, c36, c37, c38, c39, c40, ()) : Nat), ()) := held_Client (c0, c1, c2, c3, c4, c5, c6, c7, c8, c9, c10, c11, c12, c13, c14, c15, c16, c17, c18, c19, c20, c21, c22, c23, c24, c25, c26, c27, c28, c29, c30, c31, c32, c33, c34, c35, c36, c37, c38, c39, c40, ()) k h0 h1 hl
theorem eq_Note (d : YNote) (h : need_Note d ≤ 4294967296) : V_l_eqNote d d = some (true, ()) := by
  have hn : need_Note d = d.2.2.2.1.length + d.2.2.2.2.1.length + d.2.2.2.2.2.2.2.1.length + d.2.2.2.2.2.2.2.2.1.length := rfl
  unfold V_l_eqNote T_l_eqNote
  simp (disch := first | omega | (simp only [need_Note, need_Win, need_Ep, need_Chan, need_Addr, need_Cand, need_Paths, need_Sess, need_Jar, need_Dice, need_Tab, need_Credit, need_Server, need_Frame, need_Timer, need_Client]; omega)) only [val_br, val_ob, val_leaf, val_chk, val_sm, bne_self, beq_self_eq_true, br_f, ob_s, Bool.not_true, eq_ByteS, eq_IntS, eq_Win, eq_Ep, eq_Chan, eq_Addr, eq_Cand, eq_CandS, eq_Paths, eq_Sess, eq_ByteSS, eq_Jar, eq_Dice, eq_SessS, eq_Tab, eq_Credit, eq_CreditS, eq_Server, eq_Frame, eq_Timer, eq_Client]
theorem eq_NoteS (d : List YNote × Unit) (h : d.1.length + sumN need_Note d.1 ≤ 4294967296) : V_l_eqNoteS d d = some (true, ()) := by
  have e := loop_eq (B := B_l_eqNoteS_4) (l := d.1) (fun i x hx hi => by
    unfold B_l_eqNoteS_4
    simp only [val_br, val_ob, val_leaf, val_chk, val_sm, lt_dec hi, br_t, idx_at hx, ob_s, bne_self, br_f]
    have hx2 := sumN_at (f := need_Note) hx
    rw [eq_Note x (by first | omega | (simp only [need_Note] at *; omega)), ob_s]
    try simp only [Bool.not_true, br_f]
    rw [w64 (by omega)]) (by
    unfold B_l_eqNoteS_4
    simp only [val_br, val_ob, val_leaf, val_chk, val_sm, ge_dec, br_f])
  unfold V_l_eqNoteS T_l_eqNoteS
  simp only [val_br, val_ob, val_leaf, val_chk, val_sm, bne_self, br_f]
  rw [e]
  rfl
theorem mark_NoteS (d : List YNote × Unit) (k : Int) (h0 : 0 ≤ k) (h1 : k + (sumN w_Note d.1 : Nat) ≤ 4611686018427387904) : V_l_markNoteS d (k, ()) = some ((k + (sumN w_Note d.1 : Nat), ()), (mkL m_Note w_Note d.1 k, ())) := by
  have hl := len_le_sumN (w := w_Note) (fun x => by simp only [w_Note]; omega) d.1
  have e := loop_mark (B := B_l_markNoteS_2) m_Note w_Note (l := d.1) (fun t k i x ht hx hlen h0 h1 hi => by
    have hit : i < t.length := by omega
    have hw : w_Note x = 1 + 1 + 1 + sumN w_B x.2.2.2.1 + sumN w_B x.2.2.2.2.1 + 1 + 1 + sumN w_B x.2.2.2.2.2.2.2.1 + sumN w_B x.2.2.2.2.2.2.2.2.1 + 1 + 1 + 1 := rfl
    have hk : k + ((w_Note x : Nat) : Int) = k + 1 + 1 + 1 + (sumN w_B x.2.2.2.1 : Nat) + (sumN w_B x.2.2.2.2.1 : Nat) + 1 + 1 + (sumN w_B x.2.2.2.2.2.2.2.1 : Nat) + (sumN w_B x.2.2.2.2.2.2.2.2.1 : Nat) + 1 + 1 + 1 := by simp only [w_Note]; all_goals omega
    rw [hk]
    unfold B_l_markNoteS_2
    simp (maxSteps := 4000000) only [val_br, val_ob, val_leaf, val_chk, val_sm, lt_dec hit, br_t, idx_at ht, ob_s, Int.toNat_natCast]
    simp (maxSteps := 4000000) (disch := first | omega | (dsimp only; omega) | (simp only [List.length_set]; omega)) only [w64, idx_set, List.set_set, ob_s, Int.toNat_natCast, chk_t, dec_t, mark_ByteS, mark_IntS, mark_Win, mark_Ep, mark_Chan, mark_CandS, mark_Paths, mark_Sess, mark_Frame, mark_Client]
    rfl) (fun t k hlen => by
    unfold B_l_markNoteS_2
    exact (val_br _ _ _).trans ((br_ff (by simp [hlen])).trans rfl)) h0 h1
  unfold V_l_markNoteS T_l_markNoteS
  simp only [val_br, val_ob, val_leaf, val_chk, val_sm]
  rw [e]
  rfl
theorem held_NoteS (d : List YNote) (k : Int) (h0 : 0 ≤ k) (h1 : k + (sumN w_Note d : Nat) ≤ 4611686018427387904) : V_l_heldNoteS (mkL m_Note w_Note d k, ()) (k, ()) = some (k + (sumN w_Note d : Nat), ()) := by
  have hl := len_le_sumN (w := w_Note) (fun x => by simp only [w_Note]; omega) d
  have e := loop_held (B := B_l_heldNoteS_2) m_Note w_Note (l := d) (k := k) (fun k i x ht hx h0 h1 hi => by
    have hk : k + ((w_Note x : Nat) : Int) = k + 1 + 1 + 1 + (sumN w_B x.2.2.2.1 : Nat) + (sumN w_B x.2.2.2.2.1 : Nat) + 1 + 1 + (sumN w_B x.2.2.2.2.2.2.2.1 : Nat) + (sumN w_B x.2.2.2.2.2.2.2.2.1 : Nat) + 1 + 1 + 1 := by simp only [w_Note]; all_goals omega
    have hw : w_Note x = 1 + 1 + 1 + sumN w_B x.2.2.2.1 + sumN w_B x.2.2.2.2.1 + 1 + 1 + sumN w_B x.2.2.2.2.2.2.2.1 + sumN w_B x.2.2.2.2.2.2.2.2.1 + 1 + 1 + 1 := rfl
    rw [hk]
    unfold B_l_heldNoteS_2
    simp only [val_br, val_ob, val_leaf, val_chk, val_sm, mkL_len, lt_dec hi, br_t, idx_at ht, ob_s, m_Note, bne_self, br_f]
    simp (maxSteps := 4000000) (disch := first | omega | (dsimp only; omega)) only [w64, ob_s, bne_self, beq_self_eq_true, Bool.not_true, br_f, nn_dec, chk_t, dec_t, held_ByteS, held_IntS, held_Win, held_Ep, held_Chan, held_CandS, held_Paths, held_Sess, held_Frame, held_Client]) (fun k => by
    unfold B_l_heldNoteS_2
    simp only [val_br, val_ob, val_leaf, val_chk, val_sm, mkL_len, ge_dec, br_f]) h0 h1
  unfold V_l_heldNoteS T_l_heldNoteS
  simp only [val_br, val_ob, val_leaf, val_chk, val_sm]
  rw [e]
  rfl
theorem lw_1 (d : YCand) (h : wfDs [.int .i64, .int .i64, .sl 5 [.int .u8], .int .i64] d) : lo_Cand d := by
  simp only [wfDs, wfD] at h
  unfold lo_Cand
  exact ml h.2.2.1.1
theorem lw_0 (d : YSess) (h : wfDs [.int .i64, .sl 5 [.int .u8], .sl 5 [.int .u8], .int .i64, .sl 5 [.int .u8], .int .i64, .sl 5 [.int .u8], .int .i64, .int .i64, .sl 3 [.int .i64], .int .i64, .sl 5 [.int .u8], .int .i64, .int .i64, .sl 3 [.int .i64], .bool, .int .i64, .sl 5 [.int .u8], .int .i64, .int .i64, .sl 225 [.int .i64, .int .i64, .sl 5 [.int .u8], .int .i64], .int .i64, .int .i64, .bool] d) : lo_Sess d := by
  simp only [wfDs, wfD] at h
  unfold lo_Sess
  exact ⟨ml h.2.1.1, ml h.2.2.1.1, ml h.2.2.2.2.1.1, ml h.2.2.2.2.2.2.1.1, ml h.2.2.2.2.2.2.2.2.2.1.1, ml h.2.2.2.2.2.2.2.2.2.2.2.1.1, ml h.2.2.2.2.2.2.2.2.2.2.2.2.2.2.1.1, ml h.2.2.2.2.2.2.2.2.2.2.2.2.2.2.2.2.2.1.1, ml h.2.2.2.2.2.2.2.2.2.2.2.2.2.2.2.2.2.2.2.2.1.1, fun i x hx => lw_1 x (h.2.2.2.2.2.2.2.2.2.2.2.2.2.2.2.2.2.2.2.2.1.2 i x hx)⟩
theorem lw_3 (d : YBs) (h : wfDs [.sl 5 [.int .u8]] d) : lo_Bs d := by
  simp only [wfDs, wfD] at h
  unfold lo_Bs
  exact ml h.1.1
theorem lw_2 (d : YServer) (h : wfDs [.sl 22 [.sl 5 [.int .u8]], .sl 5 [.int .u8], .sl 5 [.int .u8], .int .i64, .int .i64, .sl 36 [.int .i64, .sl 5 [.int .u8], .sl 5 [.int .u8], .int .i64, .sl 5 [.int .u8], .int .i64, .sl 5 [.int .u8], .int .i64, .int .i64, .sl 3 [.int .i64], .int .i64, .sl 5 [.int .u8], .int .i64, .int .i64, .sl 3 [.int .i64], .bool, .int .i64, .sl 5 [.int .u8], .int .i64, .int .i64, .sl 225 [.int .i64, .int .i64, .sl 5 [.int .u8], .int .i64], .int .i64, .int .i64, .bool], .sl 211 [.int .i64, .int .i64, .int .i64, .int .i64]] d) : lo_Server d := by
  simp only [wfDs, wfD] at h
  unfold lo_Server
  exact ⟨ml h.1.1, fun i x hx => lw_3 x (h.1.2 i x hx), ml h.2.1.1, ml h.2.2.1.1, ml h.2.2.2.2.2.1.1, fun i x hx => lw_0 x (h.2.2.2.2.2.1.2 i x hx), ml h.2.2.2.2.2.2.1.1⟩
theorem lw_4 (d : YClient) (h : wfDs (.int .i64 :: .sl 5 [.int .u8] :: .int .i64 :: .int .i64 :: .int .i64 :: .sl 5 [.int .u8] :: .int .i64 :: .int .i64 :: .sl 5 [.int .u8] :: .sl 5 [.int .u8] :: .int .i64 :: .sl 5 [.int .u8] :: .sl 5 [.int .u8] :: .int .i64 :: .int .i64 :: .sl 5 [.int .u8] :: .sl 5 [.int .u8] :: .int .i64 :: .sl 5 [.int .u8] :: .int .i64 :: .sl 5 [.int .u8] :: .int .i64 :: .int .i64 :: .sl 3 [.int .i64] :: .int .i64 :: .sl 5 [.int .u8] :: .int .i64 :: .int .i64 :: .sl 3 [.int .i64] :: .bool :: .int .i64 :: .sl 5 [.int .u8] :: .bool :: .int .i64 :: .int .i64 :: .int .i64 :: .bool :: .int .i64 :: .int .i64 :: .int .i64 :: .int .i64 :: []) d) : lo_Client d := by
  simp only [wfDs, wfD] at h
  unfold lo_Client
  exact ⟨ml h.2.1.1, ml h.2.2.2.2.2.1.1, ml h.2.2.2.2.2.2.2.2.1.1, ml h.2.2.2.2.2.2.2.2.2.1.1, ml h.2.2.2.2.2.2.2.2.2.2.2.1.1, ml h.2.2.2.2.2.2.2.2.2.2.2.2.1.1, ml h.2.2.2.2.2.2.2.2.2.2.2.2.2.2.2.1.1, ml h.2.2.2.2.2.2.2.2.2.2.2.2.2.2.2.2.1.1, ml h.2.2.2.2.2.2.2.2.2.2.2.2.2.2.2.2.2.2.1.1, ml h.2.2.2.2.2.2.2.2.2.2.2.2.2.2.2.2.2.2.2.2.1.1, ml h.2.2.2.2.2.2.2.2.2.2.2.2.2.2.2.2.2.2.2.2.2.2.2.1.1, ml h.2.2.2.2.2.2.2.2.2.2.2.2.2.2.2.2.2.2.2.2.2.2.2.2.2.1.1, ml h.2.2.2.2.2.2.2.2.2.2.2.2.2.2.2.2.2.2.2.2.2.2.2.2.2.2.2.2.1.1, ml h.2.2.2.2.2.2.2.2.2.2.2.2.2.2.2.2.2.2.2.2.2.2.2.2.2.2.2.2.2.2.2.1.1⟩
end
end Go.Proofs.Yteimhkhoapdfkaa

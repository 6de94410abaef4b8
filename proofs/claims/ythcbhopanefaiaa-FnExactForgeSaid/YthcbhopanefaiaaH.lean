/-
  What the helpers of the laws answer, for all arguments.
-/
import Derived.Test.YthcbhopanefaiaaW
namespace Go.Proofs.Ythcbhopanefaiaa
open Go.RowKit
set_option linter.unusedVariables false
set_option linter.unusedSimpArgs false
set_option maxHeartbeats 4000000
noncomputable section
theorem idx_at {α : Type} {l : List α} {i : Nat} {x : α} (h : l[i]? = some x) : idx l (i : Int) = some x := (idx_n l i).trans h
theorem idx_set {α : Type} {l : List α} {i : Nat} {x : α} (h : i < l.length) : idx (l.set i x) (i : Int) = some x := by rw [idx_n, List.getElem?_set_self h]
theorem lt_dec {i n : Nat} (h : i < n) : decide ((i : Int) < (n : Int)) = true := by simpa using h
theorem ge_dec (n : Nat) : decide ((n : Int) < (n : Int)) = false := by simp
theorem ne_self (a : Int) : (a != a) = false := by simp
theorem bne_self {α : Type} [BEq α] [LawfulBEq α] (a : α) : (a != a) = false := by simp
theorem nn_dec {k : Int} (h : 0 ≤ k) : decide (k < 0) = false := by simpa using h
theorem dec_t {p : Prop} [Decidable p] (h : p) : decide p = true := by simpa using h
theorem dec_f {p : Prop} [Decidable p] (h : ¬ p) : decide p = false := by simpa using h
theorem sumN_one {E : Type} {f : E → Nat} (hf : ∀ x, f x = 1) : ∀ l : List E, sumN f l = l.length
  | [] => rfl
  | x :: r => by simp only [sumN, hf, sumN_one hf r, List.length_cons]; omega
theorem len_le_sumN {E : Type} {w : E → Nat} (h : ∀ x, 1 ≤ w x) : ∀ l : List E, l.length ≤ sumN w l
  | [] => by simp [sumN]
  | x :: r => by simp only [sumN, List.length_cons]; have := h x; have := len_le_sumN h r; omega
theorem br_ff {ρ : Type} {b : Bool} {x y : Option ρ} (h : b = false) : br b x y = y := by subst h; rfl
theorem br_tt {ρ : Type} {b : Bool} {x y : Option ρ} (h : b = true) : br b x y = x := by subst h; rfl
theorem chk_tt {ρ : Type} {b : Bool} {x : Option ρ} (h : b = true) : chk b x = x := by subst h; rfl
theorem ml {n : Nat} (h : n ≤ maxLen) : n ≤ 9223372036854775807 := by unfold maxLen at h; omega
def w_B (d : YB) : Nat := 1
def m_B (d : YB) (k : Int) : YB := (IntKind.u8.wrap k, ())
def w_I (d : YI) : Nat := 1
def m_I (d : YI) (k : Int) : YI := (k, ())
def need_Op (d : YOp) : Nat := d.2.2.2.1.length
def lo_Op (d : YOp) : Prop := d.2.2.2.1.length ≤ 9223372036854775807
def w_Op (d : YOp) : Nat := 1 + 1 + 1 + sumN w_B d.2.2.2.1
def m_Op (d : YOp) (k : Int) : YOp := (k, k + 1, k + 1 + 1, mkL m_B w_B d.2.2.2.1 (k + 1 + 1 + 1), ())
def wt_Op (d : YOp) : Nat := sumN w_B d.2.2.2.1
theorem w_le_Op (d : YOp) : w_Op d ≤ 32 * need_Op d + 32 := by
  have h3 := sumN_le1 (f := w_B) (fun _ => by simp [w_B]) d.2.2.2.1
  simp only [w_Op, need_Op]; omega
theorem wt_le_Op (d : YOp) : wt_Op d ≤ 32 * need_Op d + 32 := by
  have h3 := sumN_le1 (f := w_B) (fun _ => by simp [w_B]) d.2.2.2.1
  simp only [wt_Op, need_Op]; omega
def need_Addr (d : YAddr) : Nat := 0
def lo_Addr (d : YAddr) : Prop := True
def w_Addr (d : YAddr) : Nat := 1 + 1
def m_Addr (d : YAddr) (k : Int) : YAddr := (k, k + 1, ())
def wt_Addr (d : YAddr) : Nat := 0
theorem w_le_Addr (d : YAddr) : w_Addr d ≤ 32 * need_Addr d + 32 := by
  simp only [w_Addr, need_Addr]; omega
theorem wt_le_Addr (d : YAddr) : wt_Addr d ≤ 32 * need_Addr d + 32 := by
  simp only [wt_Addr, need_Addr]; omega
def need_Dice (d : YDice) : Nat := d.1.length
def lo_Dice (d : YDice) : Prop := d.1.length ≤ 9223372036854775807
def w_Dice (d : YDice) : Nat := sumN w_B d.1 + 1
def m_Dice (d : YDice) (k : Int) : YDice := (mkL m_B w_B d.1 (k), k + (sumN w_B d.1 : Nat), ())
def wt_Dice (d : YDice) : Nat := sumN w_B d.1
theorem w_le_Dice (d : YDice) : w_Dice d ≤ 32 * need_Dice d + 32 := by
  have h0 := sumN_le1 (f := w_B) (fun _ => by simp [w_B]) d.1
  simp only [w_Dice, need_Dice]; omega
theorem wt_le_Dice (d : YDice) : wt_Dice d ≤ 32 * need_Dice d + 32 := by
  have h0 := sumN_le1 (f := w_B) (fun _ => by simp [w_B]) d.1
  simp only [wt_Dice, need_Dice]; omega
def need_Win (d : YWin) : Nat := d.2.1.length
def lo_Win (d : YWin) : Prop := d.2.1.length ≤ 9223372036854775807
def w_Win (d : YWin) : Nat := 1 + sumN w_I d.2.1
def m_Win (d : YWin) (k : Int) : YWin := (k, mkL m_I w_I d.2.1 (k + 1), ())
def wt_Win (d : YWin) : Nat := sumN w_I d.2.1
theorem w_le_Win (d : YWin) : w_Win d ≤ 32 * need_Win d + 32 := by
  have h1 := sumN_le1 (f := w_I) (fun _ => by simp [w_I]) d.2.1
  simp only [w_Win, need_Win]; omega
theorem wt_le_Win (d : YWin) : wt_Win d ≤ 32 * need_Win d + 32 := by
  have h1 := sumN_le1 (f := w_I) (fun _ => by simp [w_I]) d.2.1
  simp only [wt_Win, need_Win]; omega
def need_boundsError (d : YboundsError) : Nat := 0
def lo_boundsError (d : YboundsError) : Prop := True
def w_boundsError (d : YboundsError) : Nat := 1 + 1 + 1 + 1
def m_boundsError (d : YboundsError) (k : Int) : YboundsError := (k, k + 1, ((k + 1 + 1) % (3 : Int)) == (0 : Int), IntKind.u8.wrap (k + 1 + 1 + 1), ())
def wt_boundsError (d : YboundsError) : Nat := 0
theorem w_le_boundsError (d : YboundsError) : w_boundsError d ≤ 32 * need_boundsError d + 32 := by
  simp only [w_boundsError, need_boundsError]; omega
theorem wt_le_boundsError (d : YboundsError) : wt_boundsError d ≤ 32 * need_boundsError d + 32 := by
  simp only [wt_boundsError, need_boundsError]; omega
def need_Credit (d : YCredit) : Nat := 0
def lo_Credit (d : YCredit) : Prop := True
def w_Credit (d : YCredit) : Nat := 1 + 1 + 1 + 1
def m_Credit (d : YCredit) (k : Int) : YCredit := (k, k + 1, k + 1 + 1, k + 1 + 1 + 1, ())
def wt_Credit (d : YCredit) : Nat := 0
theorem w_le_Credit (d : YCredit) : w_Credit d ≤ 32 * need_Credit d + 32 := by
  simp only [w_Credit, need_Credit]; omega
theorem wt_le_Credit (d : YCredit) : wt_Credit d ≤ 32 * need_Credit d + 32 := by
  simp only [wt_Credit, need_Credit]; omega
def need_Hash (d : YHash) : Nat := d.1.length + d.2.1.length
def lo_Hash (d : YHash) : Prop := d.1.length ≤ 9223372036854775807 ∧ d.2.1.length ≤ 9223372036854775807
def w_Hash (d : YHash) : Nat := sumN w_I d.1 + sumN w_B d.2.1 + 1
def m_Hash (d : YHash) (k : Int) : YHash := (mkL m_I w_I d.1 (k), mkL m_B w_B d.2.1 (k + (sumN w_I d.1 : Nat)), k + (sumN w_I d.1 : Nat) + (sumN w_B d.2.1 : Nat), ())
def wt_Hash (d : YHash) : Nat := sumN w_I d.1 + sumN w_B d.2.1
theorem w_le_Hash (d : YHash) : w_Hash d ≤ 32 * need_Hash d + 32 := by
  have h0 := sumN_le1 (f := w_I) (fun _ => by simp [w_I]) d.1
  have h1 := sumN_le1 (f := w_B) (fun _ => by simp [w_B]) d.2.1
  simp only [w_Hash, need_Hash]; omega
theorem wt_le_Hash (d : YHash) : wt_Hash d ≤ 32 * need_Hash d + 32 := by
  have h0 := sumN_le1 (f := w_I) (fun _ => by simp [w_I]) d.1
  have h1 := sumN_le1 (f := w_B) (fun _ => by simp [w_B]) d.2.1
  simp only [wt_Hash, need_Hash]; omega
def need_Cand (d : YCand) : Nat := d.2.2.1.length
def lo_Cand (d : YCand) : Prop := d.2.2.1.length ≤ 9223372036854775807
def w_Cand (d : YCand) : Nat := 1 + 1 + sumN w_B d.2.2.1 + 1
def m_Cand (d : YCand) (k : Int) : YCand := (k, k + 1, mkL m_B w_B d.2.2.1 (k + 1 + 1), k + 1 + 1 + (sumN w_B d.2.2.1 : Nat), ())
def wt_Cand (d : YCand) : Nat := sumN w_B d.2.2.1
theorem w_le_Cand (d : YCand) : w_Cand d ≤ 32 * need_Cand d + 32 := by
  have h2 := sumN_le1 (f := w_B) (fun _ => by simp [w_B]) d.2.2.1
  simp only [w_Cand, need_Cand]; omega
theorem wt_le_Cand (d : YCand) : wt_Cand d ≤ 32 * need_Cand d + 32 := by
  have h2 := sumN_le1 (f := w_B) (fun _ => by simp [w_B]) d.2.2.1
  simp only [wt_Cand, need_Cand]; omega
def need_Wire (d : YWire) : Nat := d.2.2.2.2.1.length
def lo_Wire (d : YWire) : Prop := d.2.2.2.2.1.length ≤ 9223372036854775807
def w_Wire (d : YWire) : Nat := 1 + 1 + 1 + 1 + sumN w_B d.2.2.2.2.1
def m_Wire (d : YWire) (k : Int) : YWire := (k, k + 1, k + 1 + 1, k + 1 + 1 + 1, mkL m_B w_B d.2.2.2.2.1 (k + 1 + 1 + 1 + 1), ())
def wt_Wire (d : YWire) : Nat := sumN w_B d.2.2.2.2.1
theorem w_le_Wire (d : YWire) : w_Wire d ≤ 32 * need_Wire d + 32 := by
  have h4 := sumN_le1 (f := w_B) (fun _ => by simp [w_B]) d.2.2.2.2.1
  simp only [w_Wire, need_Wire]; omega
theorem wt_le_Wire (d : YWire) : wt_Wire d ≤ 32 * need_Wire d + 32 := by
  have h4 := sumN_le1 (f := w_B) (fun _ => by simp [w_B]) d.2.2.2.2.1
  simp only [wt_Wire, need_Wire]; omega
def need_Ep (d : YEp) : Nat := d.2.1.length + d.2.2.2.2.1.length
def lo_Ep (d : YEp) : Prop := d.2.1.length ≤ 9223372036854775807 ∧ d.2.2.2.2.1.length ≤ 9223372036854775807
def w_Ep (d : YEp) : Nat := 1 + sumN w_B d.2.1 + 1 + 1 + sumN w_I d.2.2.2.2.1
def m_Ep (d : YEp) (k : Int) : YEp := (k, mkL m_B w_B d.2.1 (k + 1), k + 1 + (sumN w_B d.2.1 : Nat), k + 1 + (sumN w_B d.2.1 : Nat) + 1, mkL m_I w_I d.2.2.2.2.1 (k + 1 + (sumN w_B d.2.1 : Nat) + 1 + 1), ())
def wt_Ep (d : YEp) : Nat := sumN w_B d.2.1 + sumN w_I d.2.2.2.2.1
theorem w_le_Ep (d : YEp) : w_Ep d ≤ 32 * need_Ep d + 32 := by
  have h1 := sumN_le1 (f := w_B) (fun _ => by simp [w_B]) d.2.1
  have h4 := sumN_le1 (f := w_I) (fun _ => by simp [w_I]) d.2.2.2.2.1
  simp only [w_Ep, need_Ep]; omega
theorem wt_le_Ep (d : YEp) : wt_Ep d ≤ 32 * need_Ep d + 32 := by
  have h1 := sumN_le1 (f := w_B) (fun _ => by simp [w_B]) d.2.1
  have h4 := sumN_le1 (f := w_I) (fun _ => by simp [w_I]) d.2.2.2.2.1
  simp only [wt_Ep, need_Ep]; omega
def need_Paths (d : YPaths) : Nat := d.2.2.1.length + sumN need_Cand d.2.2.1
def lo_Paths (d : YPaths) : Prop := d.2.2.1.length ≤ 9223372036854775807 ∧ (∀ (i : Nat) x, d.2.2.1[i]? = some x → lo_Cand x)
def w_Paths (d : YPaths) : Nat := 1 + 1 + sumN w_Cand d.2.2.1
def m_Paths (d : YPaths) (k : Int) : YPaths := (k, k + 1, mkL m_Cand w_Cand d.2.2.1 (k + 1 + 1), ())
def wt_Paths (d : YPaths) : Nat := sumN w_Cand d.2.2.1
theorem w_le_Paths (d : YPaths) : w_Paths d ≤ 32 * need_Paths d + 32 := by
  have h2 := sumN_le (f := w_Cand) (g := need_Cand) w_le_Cand d.2.2.1
  simp only [w_Paths, need_Paths]; omega
theorem wt_le_Paths (d : YPaths) : wt_Paths d ≤ 32 * need_Paths d + 32 := by
  have h2 := sumN_le (f := w_Cand) (g := need_Cand) w_le_Cand d.2.2.1
  simp only [wt_Paths, need_Paths]; omega
def need_Frame (d : YFrame) : Nat := d.2.2.1.length + d.2.2.2.1.length + d.2.2.2.2.2.1.length + d.2.2.2.2.2.2.1.length + d.2.2.2.2.2.2.2.2.2.1.length + d.2.2.2.2.2.2.2.2.2.2.1.length
def lo_Frame (d : YFrame) : Prop := d.2.2.1.length ≤ 9223372036854775807 ∧ d.2.2.2.1.length ≤ 9223372036854775807 ∧ d.2.2.2.2.2.1.length ≤ 9223372036854775807 ∧ d.2.2.2.2.2.2.1.length ≤ 9223372036854775807 ∧ d.2.2.2.2.2.2.2.2.2.1.length ≤ 9223372036854775807 ∧ d.2.2.2.2.2.2.2.2.2.2.1.length ≤ 9223372036854775807
def w_Frame (d : YFrame) : Nat := 1 + 1 + sumN w_B d.2.2.1 + sumN w_B d.2.2.2.1 + 1 + sumN w_B d.2.2.2.2.2.1 + sumN w_B d.2.2.2.2.2.2.1 + 1 + 1 + sumN w_B d.2.2.2.2.2.2.2.2.2.1 + sumN w_B d.2.2.2.2.2.2.2.2.2.2.1
def m_Frame (d : YFrame) (k : Int) : YFrame := (k, k + 1, mkL m_B w_B d.2.2.1 (k + 1 + 1), mkL m_B w_B d.2.2.2.1 (k + 1 + 1 + (sumN w_B d.2.2.1 : Nat)), k + 1 + 1 + (sumN w_B d.2.2.1 : Nat) + (sumN w_B d.2.2.2.1 : Nat), mkL m_B w_B d.2.2.2.2.2.1 (k + 1 + 1 + (sumN w_B d.2.2.1 : Nat) + (sumN w_B d.2.2.2.1 : Nat) + 1), mkL m_B w_B d.2.2.2.2.2.2.1 (k + 1 + 1 + (sumN w_B d.2.2.1 : Nat) + (sumN w_B d.2.2.2.1 : Nat) + 1 + (sumN w_B d.2.2.2.2.2.1 : Nat)), k + 1 + 1 + (sumN w_B d.2.2.1 : Nat) + (sumN w_B d.2.2.2.1 : Nat) + 1 + (sumN w_B d.2.2.2.2.2.1 : Nat) + (sumN w_B d.2.2.2.2.2.2.1 : Nat), k + 1 + 1 + (sumN w_B d.2.2.1 : Nat) + (sumN w_B d.2.2.2.1 : Nat) + 1 + (sumN w_B d.2.2.2.2.2.1 : Nat) + (sumN w_B d.2.2.2.2.2.2.1 : Nat) + 1, mkL m_B w_B d.2.2.2.2.2.2.2.2.2.1 (k + 1 + 1 + (sumN w_B d.2.2.1 : Nat) + (sumN w_B d.2.2.2.1 : Nat) + 1 + (sumN w_B d.2.2.2.2.2.1 : Nat) + (sumN w_B d.2.2.2.2.2.2.1 : Nat) + 1 + 1), mkL m_B w_B d.2.2.2.2.2.2.2.2.2.2.1 (k + 1 + 1 + (sumN w_B d.2.2.1 : Nat) + (sumN w_B d.2.2.2.1 : Nat) + 1 + (sumN w_B d.2.2.2.2.2.1 : Nat) + (sumN w_B d.2.2.2.2.2.2.1 : Nat) + 1 + 1 + (sumN w_B d.2.2.2.2.2.2.2.2.2.1 : Nat)), ())
def wt_Frame (d : YFrame) : Nat := sumN w_B d.2.2.1 + sumN w_B d.2.2.2.1 + sumN w_B d.2.2.2.2.2.1 + sumN w_B d.2.2.2.2.2.2.1 + sumN w_B d.2.2.2.2.2.2.2.2.2.1 + sumN w_B d.2.2.2.2.2.2.2.2.2.2.1
theorem w_le_Frame (d : YFrame) : w_Frame d ≤ 32 * need_Frame d + 32 := by
  have h2 := sumN_le1 (f := w_B) (fun _ => by simp [w_B]) d.2.2.1
  have h3 := sumN_le1 (f := w_B) (fun _ => by simp [w_B]) d.2.2.2.1
  have h5 := sumN_le1 (f := w_B) (fun _ => by simp [w_B]) d.2.2.2.2.2.1
  have h6 := sumN_le1 (f := w_B) (fun _ => by simp [w_B]) d.2.2.2.2.2.2.1
  have h9 := sumN_le1 (f := w_B) (fun _ => by simp [w_B]) d.2.2.2.2.2.2.2.2.2.1
  have h10 := sumN_le1 (f := w_B) (fun _ => by simp [w_B]) d.2.2.2.2.2.2.2.2.2.2.1
  simp only [w_Frame, need_Frame]; omega
theorem wt_le_Frame (d : YFrame) : wt_Frame d ≤ 32 * need_Frame d + 32 := by
  have h2 := sumN_le1 (f := w_B) (fun _ => by simp [w_B]) d.2.2.1
  have h3 := sumN_le1 (f := w_B) (fun _ => by simp [w_B]) d.2.2.2.1
  have h5 := sumN_le1 (f := w_B) (fun _ => by simp [w_B]) d.2.2.2.2.2.1
  have h6 := sumN_le1 (f := w_B) (fun _ => by simp [w_B]) d.2.2.2.2.2.2.1
  have h9 := sumN_le1 (f := w_B) (fun _ => by simp [w_B]) d.2.2.2.2.2.2.2.2.2.1
  have h10 := sumN_le1 (f := w_B) (fun _ => by simp [w_B]) d.2.2.2.2.2.2.2.2.2.2.1
  simp only [wt_Frame, need_Frame]; omega
def need_Chan (d : YChan) : Nat := d.2.1.length + d.2.2.2.1.length + d.2.2.2.2.2.2.1.length + d.2.2.2.2.2.2.2.2.1.length + d.2.2.2.2.2.2.2.2.2.2.2.1.length + d.2.2.2.2.2.2.2.2.2.2.2.2.2.2.1.length
def lo_Chan (d : YChan) : Prop := d.2.1.length ≤ 9223372036854775807 ∧ d.2.2.2.1.length ≤ 9223372036854775807 ∧ d.2.2.2.2.2.2.1.length ≤ 9223372036854775807 ∧ d.2.2.2.2.2.2.2.2.1.length ≤ 9223372036854775807 ∧ d.2.2.2.2.2.2.2.2.2.2.2.1.length ≤ 9223372036854775807 ∧ d.2.2.2.2.2.2.2.2.2.2.2.2.2.2.1.length ≤ 9223372036854775807
def w_Chan (d : YChan) : Nat := 1 + sumN w_B d.2.1 + 1 + sumN w_B d.2.2.2.1 + 1 + 1 + sumN w_I d.2.2.2.2.2.2.1 + 1 + sumN w_B d.2.2.2.2.2.2.2.2.1 + 1 + 1 + sumN w_I d.2.2.2.2.2.2.2.2.2.2.2.1 + 1 + 1 + sumN w_B d.2.2.2.2.2.2.2.2.2.2.2.2.2.2.1
def m_Chan (d : YChan) (k : Int) : YChan := (k, mkL m_B w_B d.2.1 (k + 1), k + 1 + (sumN w_B d.2.1 : Nat), mkL m_B w_B d.2.2.2.1 (k + 1 + (sumN w_B d.2.1 : Nat) + 1), k + 1 + (sumN w_B d.2.1 : Nat) + 1 + (sumN w_B d.2.2.2.1 : Nat), k + 1 + (sumN w_B d.2.1 : Nat) + 1 + (sumN w_B d.2.2.2.1 : Nat) + 1, mkL m_I w_I d.2.2.2.2.2.2.1 (k + 1 + (sumN w_B d.2.1 : Nat) + 1 + (sumN w_B d.2.2.2.1 : Nat) + 1 + 1), k + 1 + (sumN w_B d.2.1 : Nat) + 1 + (sumN w_B d.2.2.2.1 : Nat) + 1 + 1 + (sumN w_I d.2.2.2.2.2.2.1 : Nat), mkL m_B w_B d.2.2.2.2.2.2.2.2.1 (k + 1 + (sumN w_B d.2.1 : Nat) + 1 + (sumN w_B d.2.2.2.1 : Nat) + 1 + 1 + (sumN w_I d.2.2.2.2.2.2.1 : Nat) + 1), k + 1 + (sumN w_B d.2.1 : Nat) + 1 + (sumN w_B d.2.2.2.1 : Nat) + 1 + 1 + (sumN w_I d.2.2.2.2.2.2.1 : Nat) + 1 + (sumN w_B d.2.2.2.2.2.2.2.2.1 : Nat), k + 1 + (sumN w_B d.2.1 : Nat) + 1 + (sumN w_B d.2.2.2.1 : Nat) + 1 + 1 + (sumN w_I d.2.2.2.2.2.2.1 : Nat) + 1 + (sumN w_B d.2.2.2.2.2.2.2.2.1 : Nat) + 1, mkL m_I w_I d.2.2.2.2.2.2.2.2.2.2.2.1 (k + 1 + (sumN w_B d.2.1 : Nat) + 1 + (sumN w_B d.2.2.2.1 : Nat) + 1 + 1 + (sumN w_I d.2.2.2.2.2.2.1 : Nat) + 1 + (sumN w_B d.2.2.2.2.2.2.2.2.1 : Nat) + 1 + 1), ((k + 1 + (sumN w_B d.2.1 : Nat) + 1 + (sumN w_B d.2.2.2.1 : Nat) + 1 + 1 + (sumN w_I d.2.2.2.2.2.2.1 : Nat) + 1 + (sumN w_B d.2.2.2.2.2.2.2.2.1 : Nat) + 1 + 1 + (sumN w_I d.2.2.2.2.2.2.2.2.2.2.2.1 : Nat)) % (3 : Int)) == (0 : Int), k + 1 + (sumN w_B d.2.1 : Nat) + 1 + (sumN w_B d.2.2.2.1 : Nat) + 1 + 1 + (sumN w_I d.2.2.2.2.2.2.1 : Nat) + 1 + (sumN w_B d.2.2.2.2.2.2.2.2.1 : Nat) + 1 + 1 + (sumN w_I d.2.2.2.2.2.2.2.2.2.2.2.1 : Nat) + 1, mkL m_B w_B d.2.2.2.2.2.2.2.2.2.2.2.2.2.2.1 (k + 1 + (sumN w_B d.2.1 : Nat) + 1 + (sumN w_B d.2.2.2.1 : Nat) + 1 + 1 + (sumN w_I d.2.2.2.2.2.2.1 : Nat) + 1 + (sumN w_B d.2.2.2.2.2.2.2.2.1 : Nat) + 1 + 1 + (sumN w_I d.2.2.2.2.2.2.2.2.2.2.2.1 : Nat) + 1 + 1), ())
def wt_Chan (d : YChan) : Nat := sumN w_B d.2.1 + sumN w_B d.2.2.2.1 + sumN w_I d.2.2.2.2.2.2.1 + sumN w_B d.2.2.2.2.2.2.2.2.1 + sumN w_I d.2.2.2.2.2.2.2.2.2.2.2.1 + sumN w_B d.2.2.2.2.2.2.2.2.2.2.2.2.2.2.1
theorem w_le_Chan (d : YChan) : w_Chan d ≤ 32 * need_Chan d + 32 := by
  have h1 := sumN_le1 (f := w_B) (fun _ => by simp [w_B]) d.2.1
  have h3 := sumN_le1 (f := w_B) (fun _ => by simp [w_B]) d.2.2.2.1
  have h6 := sumN_le1 (f := w_I) (fun _ => by simp [w_I]) d.2.2.2.2.2.2.1
  have h8 := sumN_le1 (f := w_B) (fun _ => by simp [w_B]) d.2.2.2.2.2.2.2.2.1
  have h11 := sumN_le1 (f := w_I) (fun _ => by simp [w_I]) d.2.2.2.2.2.2.2.2.2.2.2.1
  have h14 := sumN_le1 (f := w_B) (fun _ => by simp [w_B]) d.2.2.2.2.2.2.2.2.2.2.2.2.2.2.1
  simp only [w_Chan, need_Chan]; omega
theorem wt_le_Chan (d : YChan) : wt_Chan d ≤ 32 * need_Chan d + 32 := by
  have h1 := sumN_le1 (f := w_B) (fun _ => by simp [w_B]) d.2.1
  have h3 := sumN_le1 (f := w_B) (fun _ => by simp [w_B]) d.2.2.2.1
  have h6 := sumN_le1 (f := w_I) (fun _ => by simp [w_I]) d.2.2.2.2.2.2.1
  have h8 := sumN_le1 (f := w_B) (fun _ => by simp [w_B]) d.2.2.2.2.2.2.2.2.1
  have h11 := sumN_le1 (f := w_I) (fun _ => by simp [w_I]) d.2.2.2.2.2.2.2.2.2.2.2.1
  have h14 := sumN_le1 (f := w_B) (fun _ => by simp [w_B]) d.2.2.2.2.2.2.2.2.2.2.2.2.2.2.1
  simp only [wt_Chan, need_Chan]; omega
def need_Sess (d : YSess) : Nat := d.2.1.length + d.2.2.1.length + d.2.2.2.2.1.length + d.2.2.2.2.2.2.1.length + d.2.2.2.2.2.2.2.2.2.1.length + d.2.2.2.2.2.2.2.2.2.2.2.1.length + d.2.2.2.2.2.2.2.2.2.2.2.2.2.2.1.length + d.2.2.2.2.2.2.2.2.2.2.2.2.2.2.2.2.2.1.length + d.2.2.2.2.2.2.2.2.2.2.2.2.2.2.2.2.2.2.2.2.1.length + sumN need_Cand d.2.2.2.2.2.2.2.2.2.2.2.2.2.2.2.2.2.2.2.2.1
def lo_Sess (d : YSess) : Prop := d.2.1.length ≤ 9223372036854775807 ∧ d.2.2.1.length ≤ 9223372036854775807 ∧ d.2.2.2.2.1.length ≤ 9223372036854775807 ∧ d.2.2.2.2.2.2.1.length ≤ 9223372036854775807 ∧ d.2.2.2.2.2.2.2.2.2.1.length ≤ 9223372036854775807 ∧ d.2.2.2.2.2.2.2.2.2.2.2.1.length ≤ 9223372036854775807 ∧ d.2.2.2.2.2.2.2.2.2.2.2.2.2.2.1.length ≤ 9223372036854775807 ∧ d.2.2.2.2.2.2.2.2.2.2.2.2.2.2.2.2.2.1.length ≤ 9223372036854775807 ∧ d.2.2.2.2.2.2.2.2.2.2.2.2.2.2.2.2.2.2.2.2.1.length ≤ 9223372036854775807 ∧ (∀ (i : Nat) x, d.2.2.2.2.2.2.2.2.2.2.2.2.2.2.2.2.2.2.2.2.1[i]? = some x → lo_Cand x)
def w_Sess (d : YSess) : Nat := 1 + sumN w_B d.2.1 + sumN w_B d.2.2.1 + 1 + sumN w_B d.2.2.2.2.1 + 1 + sumN w_B d.2.2.2.2.2.2.1 + 1 + 1 + sumN w_I d.2.2.2.2.2.2.2.2.2.1 + 1 + sumN w_B d.2.2.2.2.2.2.2.2.2.2.2.1 + 1 + 1 + sumN w_I d.2.2.2.2.2.2.2.2.2.2.2.2.2.2.1 + 1 + 1 + sumN w_B d.2.2.2.2.2.2.2.2.2.2.2.2.2.2.2.2.2.1 + 1 + 1 + sumN w_Cand d.2.2.2.2.2.2.2.2.2.2.2.2.2.2.2.2.2.2.2.2.1 + 1 + 1 + 1
def m_Sess (d : YSess) (k : Int) : YSess := (k, mkL m_B w_B d.2.1 (k + 1), mkL m_B w_B d.2.2.1 (k + 1 + (sumN w_B d.2.1 : Nat)), k + 1 + (sumN w_B d.2.1 : Nat) + (sumN w_B d.2.2.1 : Nat), mkL m_B w_B d.2.2.2.2.1 (k + 1 + (sumN w_B d.2.1 : Nat) + (sumN w_B d.2.2.1 : Nat) + 1), k + 1 + (sumN w_B d.2.1 : Nat) + (sumN w_B d.2.2.1 : Nat) + 1 + (sumN w_B d.2.2.2.2.1 : Nat), mkL m_B w_B d.2.2.2.2.2.2.1 (k + 1 + (sumN w_B d.2.1 : Nat) + (sumN w_B d.2.2.1 : Nat) + 1 + (sumN w_B d.2.2.2.2.1 : Nat) + 1), k + 1 + (sumN w_B d.2.1 : Nat) + (sumN w_B d.2.2.1 : Nat) + 1 + (sumN w_B d.2.2.2.2.1 : Nat) + 1 + (sumN w_B d.2.2.2.2.2.2.1 : Nat), k + 1 + (sumN w_B d.2.1 : Nat) + (sumN w_B d.2.2.1 : Nat) + 1 + (sumN w_B d.2.2.2.2.1 : Nat) + 1 + (sumN w_B d.2.2.2.2.2.2.1 : Nat) + 1, mkL m_I w_I d.2.2.2.2.2.2.2.2.2.1 (k + 1 + (sumN w_B d.2.1 : Nat) + (sumN w_B d.2.2.1 : Nat) + 1 + (sumN w_B d.2.2.2.2.1 : Nat) + 1 + (sumN w_B d.2.2.2.2.2.2.1 : Nat) + 1 + 1), k + 1 + (sumN w_B d.2.1 : Nat) + (sumN w_B d.2.2.1 : Nat) + 1 + (sumN w_B d.2.2.2.2.1 : Nat) + 1 + (sumN w_B d.2.2.2.2.2.2.1 : Nat) + 1 + 1 + (sumN w_I d.2.2.2.2.2.2.2.2.2.1 : Nat), mkL m_B w_B d.2.2.2.2.2.2.2.2.2.2.2.1 (k + 1 + (sumN w_B d.2.1 : Nat) + (sumN w_B d.2.2.1 : Nat) + 1 + (sumN w_B d.2.2.2.2.1 : Nat) + 1 + (sumN w_B d.2.2.2.2.2.2.1 : Nat) + 1 + 1 + (sumN w_I d.2.2.2.2.2.2.2.2.2.1 : Nat) + 1), k + 1 + (sumN w_B d.2.1 : Nat) + (sumN w_B d.2.2.1 : Nat) + 1 + (sumN w_B d.2.2.2.2.1 : Nat) + 1 + (sumN w_B d.2.2.2.2.2.2.1 : Nat) + 1 + 1 + (sumN w_I d.2.2.2.2.2.2.2.2.2.1 : Nat) + 1 + (sumN w_B d.2.2.2.2.2.2.2.2.2.2.2.1 : Nat), k + 1 + (sumN w_B d.2.1 : Nat) + (sumN w_B d.2.2.1 : Nat) + 1 + (sumN w_B d.2.2.2.2.1 : Nat) + 1 + (sumN w_B d.2.2.2.2.2.2.1 : Nat) + 1 + 1 + (sumN w_I d.2.2.2.2.2.2.2.2.2.1 : Nat) + 1 + (sumN w_B d.2.2.2.2.2.2.2.2.2.2.2.1 : Nat) + 1, mkL m_I w_I d.2.2.2.2.2.2.2.2.2.2.2.2.2.2.1 (k + 1 + (sumN w_B d.2.1 : Nat) + (sumN w_B d.2.2.1 : Nat) + 1 + (sumN w_B d.2.2.2.2.1 : Nat) + 1 + (sumN w_B d.2.2.2.2.2.2.1 : Nat) + 1 + 1 + (sumN w_I d.2.2.2.2.2.2.2.2.2.1 : Nat) + 1 + (sumN w_B d.2.2.2.2.2.2.2.2.2.2.2.1 : Nat) + 1 + 1), ((k + 1 + (sumN w_B d.2.1 : Nat) + (sumN w_B d.2.2.1 : Nat) + 1 + (sumN w_B d.2.2.2.2.1 : Nat) + 1 + (sumN w_B d.2.2.2.2.2.2.1 : Nat) + 1 + 1 + (sumN w_I d.2.2.2.2.2.2.2.2.2.1 : Nat) + 1 + (sumN w_B d.2.2.2.2.2.2.2.2.2.2.2.1 : Nat) + 1 + 1 + (sumN w_I d.2.2.2.2.2.2.2.2.2.2.2.2.2.2.1 : Nat)) % (3 : Int)) == (0 : Int), k + 1 + (sumN w_B d.2.1 : Nat) + (sumN w_B d.2.2.1 : Nat) + 1 + (sumN w_B d.2.2.2.2.1 : Nat) + 1 + (sumN w_B d.2.2.2.2.2.2.1 : Nat) + 1 + 1 + (sumN w_I d.2.2.2.2.2.2.2.2.2.1 : Nat) + 1 + (sumN w_B d.2.2.2.2.2.2.2.2.2.2.2.1 : Nat) + 1 + 1 + (sumN w_I d.2.2.2.2.2.2.2.2.2.2.2.2.2.2.1 : Nat) + 1, mkL m_B w_B d.2.2.2.2.2.2.2.2.2.2.2.2.2.2.2.2.2.1 (k + 1 + (sumN w_B d.2.1 : Nat) + (sumN w_B d.2.2.1 : Nat) + 1 + (sumN w_B d.2.2.2.2.1 : Nat) + 1 + (sumN w_B d.2.2.2.2.2.2.1 : Nat) + 1 + 1 + (sumN w_I d.2.2.2.2.2.2.2.2.2.1 : Nat) + 1 + (sumN w_B d.2.2.2.2.2.2.2.2.2.2.2.1 : Nat) + 1 + 1 + (sumN w_I d.2.2.2.2.2.2.2.2.2.2.2.2.2.2.1 : Nat) + 1 + 1), k + 1 + (sumN w_B d.2.1 : Nat) + (sumN w_B d.2.2.1 : Nat) + 1 + (sumN w_B d.2.2.2.2.1 : Nat) + 1 + (sumN w_B d.2.2.2.2.2.2.1 : Nat) + 1 + 1 + (sumN w_I d.2.2.2.2.2.2.2.2.2.1 : Nat) + 1 + (sumN w_B d.2.2.2.2.2.2.2.2.2.2.2.1 : Nat) + 1 + 1 + (sumN w_I d.2.2.2.2.2.2.2.2.2.2.2.2.2.2.1 : Nat) + 1 + 1 + (sumN w_B d.2.2.2.2.2.2.2.2.2.2.2.2.2.2.2.2.2.1 : Nat), k + 1 + (sumN w_B d.2.1 : Nat) + (sumN w_B d.2.2.1 : Nat) + 1 + (sumN w_B d.2.2.2.2.1 : Nat) + 1 + (sumN w_B d.2.2.2.2.2.2.1 : Nat) + 1 + 1 + (sumN w_I d.2.2.2.2.2.2.2.2.2.1 : Nat) + 1 + (sumN w_B d.2.2.2.2.2.2.2.2.2.2.2.1 : Nat) + 1 + 1 + (sumN w_I d.2.2.2.2.2.2.2.2.2.2.2.2.2.2.1 : Nat) + 1 + 1 + (sumN w_B d.2.2.2.2.2.2.2.2.2.2.2.2.2.2.2.2.2.1 : Nat) + 1, mkL m_Cand w_Cand d.2.2.2.2.2.2.2.2.2.2.2.2.2.2.2.2.2.2.2.2.1 (k + 1 + (sumN w_B d.2.1 : Nat) + (sumN w_B d.2.2.1 : Nat) + 1 + (sumN w_B d.2.2.2.2.1 : Nat) + 1 + (sumN w_B d.2.2.2.2.2.2.1 : Nat) + 1 + 1 + (sumN w_I d.2.2.2.2.2.2.2.2.2.1 : Nat) + 1 + (sumN w_B d.2.2.2.2.2.2.2.2.2.2.2.1 : Nat) + 1 + 1 + (sumN w_I d.2.2.2.2.2.2.2.2.2.2.2.2.2.2.1 : Nat) + 1 + 1 + (sumN w_B d.2.2.2.2.2.2.2.2.2.2.2.2.2.2.2.2.2.1 : Nat) + 1 + 1), k + 1 + (sumN w_B d.2.1 : Nat) + (sumN w_B d.2.2.1 : Nat) + 1 + (sumN w_B d.2.2.2.2.1 : Nat) + 1 + (sumN w_B d.2.2.2.2.2.2.1 : Nat) + 1 + 1 + (sumN w_I d.2.2.2.2.2.2.2.2.2.1 : Nat) + 1 + (sumN w_B d.2.2.2.2.2.2.2.2.2.2.2.1 : Nat) + 1 + 1 + (sumN w_I d.2.2.2.2.2.2.2.2.2.2.2.2.2.2.1 : Nat) + 1 + 1 + (sumN w_B d.2.2.2.2.2.2.2.2.2.2.2.2.2.2.2.2.2.1 : Nat) + 1 + 1 + (sumN w_Cand d.2.2.2.2.2.2.2.2.2.2.2.2.2.2.2.2.2.2.2.2.1 : Nat), k + 1 + (sumN w_B d.2.1 : Nat) + (sumN w_B d.2.2.1 : Nat) + 1 + (sumN w_B d.2.2.2.2.1 : Nat) + 1 + (sumN w_B d.2.2.2.2.2.2.1 : Nat) + 1 + 1 + (sumN w_I d.2.2.2.2.2.2.2.2.2.1 : Nat) + 1 + (sumN w_B d.2.2.2.2.2.2.2.2.2.2.2.1 : Nat) + 1 + 1 + (sumN w_I d.2.2.2.2.2.2.2.2.2.2.2.2.2.2.1 : Nat) + 1 + 1 + (sumN w_B d.2.2.2.2.2.2.2.2.2.2.2.2.2.2.2.2.2.1 : Nat) + 1 + 1 + (sumN w_Cand d.2.2.2.2.2.2.2.2.2.2.2.2.2.2.2.2.2.2.2.2.1 : Nat) + 1, ((k + 1 + (sumN w_B d.2.1 : Nat) + (sumN w_B d.2.2.1 : Nat) + 1 + (sumN w_B d.2.2.2.2.1 : Nat) + 1 + (sumN w_B d.2.2.2.2.2.2.1 : Nat) + 1 + 1 + (sumN w_I d.2.2.2.2.2.2.2.2.2.1 : Nat) + 1 + (sumN w_B d.2.2.2.2.2.2.2.2.2.2.2.1 : Nat) + 1 + 1 + (sumN w_I d.2.2.2.2.2.2.2.2.2.2.2.2.2.2.1 : Nat) + 1 + 1 + (sumN w_B d.2.2.2.2.2.2.2.2.2.2.2.2.2.2.2.2.2.1 : Nat) + 1 + 1 + (sumN w_Cand d.2.2.2.2.2.2.2.2.2.2.2.2.2.2.2.2.2.2.2.2.1 : Nat) + 1 + 1) % (3 : Int)) == (0 : Int), ())
def wt_Sess (d : YSess) : Nat := sumN w_B d.2.1 + sumN w_B d.2.2.1 + sumN w_B d.2.2.2.2.1 + sumN w_B d.2.2.2.2.2.2.1 + sumN w_I d.2.2.2.2.2.2.2.2.2.1 + sumN w_B d.2.2.2.2.2.2.2.2.2.2.2.1 + sumN w_I d.2.2.2.2.2.2.2.2.2.2.2.2.2.2.1 + sumN w_B d.2.2.2.2.2.2.2.2.2.2.2.2.2.2.2.2.2.1 + sumN w_Cand d.2.2.2.2.2.2.2.2.2.2.2.2.2.2.2.2.2.2.2.2.1
theorem w_le_Sess (d : YSess) : w_Sess d ≤ 32 * need_Sess d + 32 := by
  have h1 := sumN_le1 (f := w_B) (fun _ => by simp [w_B]) d.2.1
  have h2 := sumN_le1 (f := w_B) (fun _ => by simp [w_B]) d.2.2.1
  have h4 := sumN_le1 (f := w_B) (fun _ => by simp [w_B]) d.2.2.2.2.1
  have h6 := sumN_le1 (f := w_B) (fun _ => by simp [w_B]) d.2.2.2.2.2.2.1
  have h9 := sumN_le1 (f := w_I) (fun _ => by simp [w_I]) d.2.2.2.2.2.2.2.2.2.1
  have h11 := sumN_le1 (f := w_B) (fun _ => by simp [w_B]) d.2.2.2.2.2.2.2.2.2.2.2.1
  have h14 := sumN_le1 (f := w_I) (fun _ => by simp [w_I]) d.2.2.2.2.2.2.2.2.2.2.2.2.2.2.1
  have h17 := sumN_le1 (f := w_B) (fun _ => by simp [w_B]) d.2.2.2.2.2.2.2.2.2.2.2.2.2.2.2.2.2.1
  have h20 := sumN_le (f := w_Cand) (g := need_Cand) w_le_Cand d.2.2.2.2.2.2.2.2.2.2.2.2.2.2.2.2.2.2.2.2.1
  simp only [w_Sess, need_Sess]; omega
theorem wt_le_Sess (d : YSess) : wt_Sess d ≤ 32 * need_Sess d + 32 := by
  have h1 := sumN_le1 (f := w_B) (fun _ => by simp [w_B]) d.2.1
  have h2 := sumN_le1 (f := w_B) (fun _ => by simp [w_B]) d.2.2.1
  have h4 := sumN_le1 (f := w_B) (fun _ => by simp [w_B]) d.2.2.2.2.1
  have h6 := sumN_le1 (f := w_B) (fun _ => by simp [w_B]) d.2.2.2.2.2.2.1
  have h9 := sumN_le1 (f := w_I) (fun _ => by simp [w_I]) d.2.2.2.2.2.2.2.2.2.1
  have h11 := sumN_le1 (f := w_B) (fun _ => by simp [w_B]) d.2.2.2.2.2.2.2.2.2.2.2.1
  have h14 := sumN_le1 (f := w_I) (fun _ => by simp [w_I]) d.2.2.2.2.2.2.2.2.2.2.2.2.2.2.1
  have h17 := sumN_le1 (f := w_B) (fun _ => by simp [w_B]) d.2.2.2.2.2.2.2.2.2.2.2.2.2.2.2.2.2.1
  have h20 := sumN_le (f := w_Cand) (g := need_Cand) w_le_Cand d.2.2.2.2.2.2.2.2.2.2.2.2.2.2.2.2.2.2.2.2.1
  simp only [wt_Sess, need_Sess]; omega
def need_Tab (d : YTab) : Nat := d.2.1.length + sumN need_Sess d.2.1
def lo_Tab (d : YTab) : Prop := d.2.1.length ≤ 9223372036854775807 ∧ (∀ (i : Nat) x, d.2.1[i]? = some x → lo_Sess x)
def w_Tab (d : YTab) : Nat := 1 + sumN w_Sess d.2.1
def m_Tab (d : YTab) (k : Int) : YTab := (k, mkL m_Sess w_Sess d.2.1 (k + 1), ())
def wt_Tab (d : YTab) : Nat := sumN w_Sess d.2.1
theorem w_le_Tab (d : YTab) : w_Tab d ≤ 32 * need_Tab d + 32 := by
  have h1 := sumN_le (f := w_Sess) (g := need_Sess) w_le_Sess d.2.1
  simp only [w_Tab, need_Tab]; omega
theorem wt_le_Tab (d : YTab) : wt_Tab d ≤ 32 * need_Tab d + 32 := by
  have h1 := sumN_le (f := w_Sess) (g := need_Sess) w_le_Sess d.2.1
  simp only [wt_Tab, need_Tab]; omega
def need_Bs (d : YBs) : Nat := d.1.length
def lo_Bs (d : YBs) : Prop := d.1.length ≤ 9223372036854775807
def w_Bs (d : YBs) : Nat := sumN w_B d.1
def m_Bs (d : YBs) (k : Int) : YBs := (mkL m_B w_B d.1 (k), ())
def wt_Bs (d : YBs) : Nat := sumN w_B d.1
theorem w_le_Bs (d : YBs) : w_Bs d ≤ 32 * need_Bs d + 32 := by
  have h0 := sumN_le1 (f := w_B) (fun _ => by simp [w_B]) d.1
  simp only [w_Bs, need_Bs]; omega
theorem wt_le_Bs (d : YBs) : wt_Bs d ≤ 32 * need_Bs d + 32 := by
  have h0 := sumN_le1 (f := w_B) (fun _ => by simp [w_B]) d.1
  simp only [wt_Bs, need_Bs]; omega
def need_Server (d : YServer) : Nat := d.1.length + sumN need_Bs d.1 + d.2.1.length + d.2.2.1.length + d.2.2.2.2.2.1.length + sumN need_Sess d.2.2.2.2.2.1 + d.2.2.2.2.2.2.1.length
def lo_Server (d : YServer) : Prop := d.1.length ≤ 9223372036854775807 ∧ (∀ (i : Nat) x, d.1[i]? = some x → lo_Bs x) ∧ d.2.1.length ≤ 9223372036854775807 ∧ d.2.2.1.length ≤ 9223372036854775807 ∧ d.2.2.2.2.2.1.length ≤ 9223372036854775807 ∧ (∀ (i : Nat) x, d.2.2.2.2.2.1[i]? = some x → lo_Sess x) ∧ d.2.2.2.2.2.2.1.length ≤ 9223372036854775807
def w_Server (d : YServer) : Nat := sumN w_Bs d.1 + sumN w_B d.2.1 + sumN w_B d.2.2.1 + 1 + 1 + sumN w_Sess d.2.2.2.2.2.1 + sumN w_Credit d.2.2.2.2.2.2.1
def m_Server (d : YServer) (k : Int) : YServer := (mkL m_Bs w_Bs d.1 (k), mkL m_B w_B d.2.1 (k + (sumN w_Bs d.1 : Nat)), mkL m_B w_B d.2.2.1 (k + (sumN w_Bs d.1 : Nat) + (sumN w_B d.2.1 : Nat)), k + (sumN w_Bs d.1 : Nat) + (sumN w_B d.2.1 : Nat) + (sumN w_B d.2.2.1 : Nat), k + (sumN w_Bs d.1 : Nat) + (sumN w_B d.2.1 : Nat) + (sumN w_B d.2.2.1 : Nat) + 1, mkL m_Sess w_Sess d.2.2.2.2.2.1 (k + (sumN w_Bs d.1 : Nat) + (sumN w_B d.2.1 : Nat) + (sumN w_B d.2.2.1 : Nat) + 1 + 1), mkL m_Credit w_Credit d.2.2.2.2.2.2.1 (k + (sumN w_Bs d.1 : Nat) + (sumN w_B d.2.1 : Nat) + (sumN w_B d.2.2.1 : Nat) + 1 + 1 + (sumN w_Sess d.2.2.2.2.2.1 : Nat)), ())
def wt_Server (d : YServer) : Nat := sumN w_Bs d.1 + sumN w_B d.2.1 + sumN w_B d.2.2.1 + sumN w_Sess d.2.2.2.2.2.1 + sumN w_Credit d.2.2.2.2.2.2.1
theorem w_le_Server (d : YServer) : w_Server d ≤ 32 * need_Server d + 32 := by
  have h0 := sumN_le (f := w_Bs) (g := need_Bs) w_le_Bs d.1
  have h1 := sumN_le1 (f := w_B) (fun _ => by simp [w_B]) d.2.1
  have h2 := sumN_le1 (f := w_B) (fun _ => by simp [w_B]) d.2.2.1
  have h5 := sumN_le (f := w_Sess) (g := need_Sess) w_le_Sess d.2.2.2.2.2.1
  have h6 := sumN_le1 (f := w_Credit) (fun _ => by simp [w_Credit]) d.2.2.2.2.2.2.1
  simp only [w_Server, need_Server]; omega
theorem wt_le_Server (d : YServer) : wt_Server d ≤ 32 * need_Server d + 32 := by
  have h0 := sumN_le (f := w_Bs) (g := need_Bs) w_le_Bs d.1
  have h1 := sumN_le1 (f := w_B) (fun _ => by simp [w_B]) d.2.1
  have h2 := sumN_le1 (f := w_B) (fun _ => by simp [w_B]) d.2.2.1
  have h5 := sumN_le (f := w_Sess) (g := need_Sess) w_le_Sess d.2.2.2.2.2.1
  have h6 := sumN_le1 (f := w_Credit) (fun _ => by simp [w_Credit]) d.2.2.2.2.2.2.1
  simp only [wt_Server, need_Server]; omega
theorem to_ByteS (d : List YB × Unit) (h : d.1.length ≤ 4294967296) : V_l_toByteS d = some d := by
  have e := fun (m : List YB) (hm : m.length = d.1.length) => loop_to (B := B_l_toByteS_3) (m := m) (l := d.1) (ok := fun _ => True) (fun m i x y hx hi hy => by
    unfold B_l_toByteS_3
    simp only [val_br, val_ob, val_leaf, val_chk, val_sm, lt_dec hi, br_t, idx_at hx, idx_at hy, ob_s, Int.toNat_natCast]
    rw [w64 (by omega)]) (fun m => by
    unfold B_l_toByteS_3
    simp only [val_br, val_ob, val_leaf, val_chk, val_sm, ge_dec, br_f]) hm
  unfold V_l_toByteS T_l_toByteS
  simp only [val_br, val_ob, val_leaf, val_chk, val_sm, decide_true]
  rw [dec_t (by omega), dec_t (by omega), chk_t, chk_t, chk_t, e _ (by simp)]
  rfl
theorem eq_ByteS (d : List YB × Unit) (h : d.1.length ≤ 4294967296) : V_l_eqByteS d d = some (true, ()) := by
  have e := loop_eq (B := B_l_eqByteS_4) (l := d.1) (fun i x hx hi => by
    unfold B_l_eqByteS_4
    simp only [val_br, val_ob, val_leaf, val_chk, val_sm, lt_dec hi, br_t, idx_at hx, ob_s, bne_self, br_f]
    rw [w64 (by omega)]) (by
    unfold B_l_eqByteS_4
    simp only [val_br, val_ob, val_leaf, val_chk, val_sm, ge_dec, br_f])
  unfold V_l_eqByteS T_l_eqByteS
  simp only [val_br, val_ob, val_leaf, val_chk, val_sm, bne_self, br_f]
  rw [e]
  rfl
theorem mark_ByteS (d : List YB × Unit) (k : Int) (h0 : 0 ≤ k) (h1 : k + (sumN w_B d.1 : Nat) ≤ 4611686018427387904) : V_l_markByteS d (k, ()) = some ((k + (sumN w_B d.1 : Nat), ()), (mkL m_B w_B d.1 k, ())) := by
  have hl := len_le_sumN (w := w_B) (fun x => by simp only [w_B]; omega) d.1
  have e := loop_mark (B := B_l_markByteS_2) m_B w_B (l := d.1) (fun t k i x ht hx hlen h0 h1 hi => by
    have hit : i < t.length := by omega
    have hk : k + ((w_B x : Nat) : Int) = k + 1 := by simp only [w_B]; all_goals omega
    rw [hk]
    unfold B_l_markByteS_2
    simp (maxSteps := 4000000) only [val_br, val_ob, val_leaf, val_chk, val_sm, lt_dec hit, br_t, idx_at ht, ob_s, Int.toNat_natCast]
    simp only [w_B] at *
    simp (maxSteps := 4000000) (disch := first | omega | (dsimp only; omega) | (simp only [List.length_set]; omega)) only [w64, idx_set, List.set_set, ob_s, Int.toNat_natCast, chk_t, dec_t]
    rfl) (fun t k hlen => by
    unfold B_l_markByteS_2
    exact (val_br _ _ _).trans ((br_ff (by simp [hlen])).trans rfl)) h0 h1
  unfold V_l_markByteS T_l_markByteS
  simp only [val_br, val_ob, val_leaf, val_chk, val_sm]
  rw [e]
  rfl
theorem held_ByteS (d : List YB) (k : Int) (h0 : 0 ≤ k) (h1 : k + (sumN w_B d : Nat) ≤ 4611686018427387904) : V_l_heldByteS (mkL m_B w_B d k, ()) (k, ()) = some (k + (sumN w_B d : Nat), ()) := by
  have hl := len_le_sumN (w := w_B) (fun x => by simp only [w_B]; omega) d
  have e := loop_held (B := B_l_heldByteS_2) m_B w_B (l := d) (k := k) (fun k i x ht hx h0 h1 hi => by
    have hk : k + ((w_B x : Nat) : Int) = k + 1 := by simp only [w_B]; all_goals omega
    rw [hk]
    unfold B_l_heldByteS_2
    simp only [val_br, val_ob, val_leaf, val_chk, val_sm, mkL_len, lt_dec hi, br_t, idx_at ht, ob_s, m_B, bne_self, br_f]
    simp only [w_B] at *
    simp (maxSteps := 4000000) (disch := first | omega | (dsimp only; omega)) only [w64, ob_s, bne_self, beq_self_eq_true, Bool.not_true, br_f, nn_dec, chk_t, dec_t]) (fun k => by
    unfold B_l_heldByteS_2
    simp only [val_br, val_ob, val_leaf, val_chk, val_sm, mkL_len, ge_dec, br_f]) h0 h1
  unfold V_l_heldByteS T_l_heldByteS
  simp only [val_br, val_ob, val_leaf, val_chk, val_sm]
  rw [e]
  rfl
theorem eq_Op (d : YOp) (h : need_Op d ≤ 4294967296) : V_l_eqOp d d = some (true, ()) := by
  have hn : need_Op d = d.2.2.2.1.length := rfl
  unfold V_l_eqOp T_l_eqOp
  simp (disch := first | omega | (simp only [need_Op]; omega)) only [val_br, val_ob, val_leaf, val_chk, val_sm, bne_self, beq_self_eq_true, br_f, ob_s, Bool.not_true, eq_ByteS]
theorem eq_OpS (d : List YOp × Unit) (h : d.1.length + sumN need_Op d.1 ≤ 4294967296) : V_l_eqOpS d d = some (true, ()) := by
  have e := loop_eq (B := B_l_eqOpS_4) (l := d.1) (fun i x hx hi => by
    unfold B_l_eqOpS_4
    simp only [val_br, val_ob, val_leaf, val_chk, val_sm, lt_dec hi, br_t, idx_at hx, ob_s, bne_self, br_f]
    have hx2 := sumN_at (f := need_Op) hx
    rw [eq_Op x (by first | omega | (simp only [need_Op] at *; omega)), ob_s]
    try simp only [Bool.not_true, br_f]
    rw [w64 (by omega)]) (by
    unfold B_l_eqOpS_4
    simp only [val_br, val_ob, val_leaf, val_chk, val_sm, ge_dec, br_f])
  unfold V_l_eqOpS T_l_eqOpS
  simp only [val_br, val_ob, val_leaf, val_chk, val_sm, bne_self, br_f]
  rw [e]
  rfl
theorem mark_OpS (d : List YOp × Unit) (k : Int) (h0 : 0 ≤ k) (h1 : k + (sumN w_Op d.1 : Nat) ≤ 4611686018427387904) : V_l_markOpS d (k, ()) = some ((k + (sumN w_Op d.1 : Nat), ()), (mkL m_Op w_Op d.1 k, ())) := by
  have hl := len_le_sumN (w := w_Op) (fun x => by simp only [w_Op]; omega) d.1
  have e := loop_mark (B := B_l_markOpS_2) m_Op w_Op (l := d.1) (fun t k i x ht hx hlen h0 h1 hi => by
    have hit : i < t.length := by omega
    have hw : w_Op x = 1 + 1 + 1 + sumN w_B x.2.2.2.1 := rfl
    have hk : k + ((w_Op x : Nat) : Int) = k + 1 + 1 + 1 + (sumN w_B x.2.2.2.1 : Nat) := by simp only [w_Op]; all_goals omega
    rw [hk]
    unfold B_l_markOpS_2
    simp (maxSteps := 4000000) only [val_br, val_ob, val_leaf, val_chk, val_sm, lt_dec hit, br_t, idx_at ht, ob_s, Int.toNat_natCast]
    simp (maxSteps := 4000000) (disch := first | omega | (dsimp only; omega) | (simp only [List.length_set]; omega)) only [w64, idx_set, List.set_set, ob_s, Int.toNat_natCast, chk_t, dec_t, mark_ByteS]
    rfl) (fun t k hlen => by
    unfold B_l_markOpS_2
    exact (val_br _ _ _).trans ((br_ff (by simp [hlen])).trans rfl)) h0 h1
  unfold V_l_markOpS T_l_markOpS
  simp only [val_br, val_ob, val_leaf, val_chk, val_sm]
  rw [e]
  rfl
theorem held_OpS (d : List YOp) (k : Int) (h0 : 0 ≤ k) (h1 : k + (sumN w_Op d : Nat) ≤ 4611686018427387904) : V_l_heldOpS (mkL m_Op w_Op d k, ()) (k, ()) = some (k + (sumN w_Op d : Nat), ()) := by
  have hl := len_le_sumN (w := w_Op) (fun x => by simp only [w_Op]; omega) d
  have e := loop_held (B := B_l_heldOpS_2) m_Op w_Op (l := d) (k := k) (fun k i x ht hx h0 h1 hi => by
    have hk : k + ((w_Op x : Nat) : Int) = k + 1 + 1 + 1 + (sumN w_B x.2.2.2.1 : Nat) := by simp only [w_Op]; all_goals omega
    have hw : w_Op x = 1 + 1 + 1 + sumN w_B x.2.2.2.1 := rfl
    rw [hk]
    unfold B_l_heldOpS_2
    simp only [val_br, val_ob, val_leaf, val_chk, val_sm, mkL_len, lt_dec hi, br_t, idx_at ht, ob_s, m_Op, bne_self, br_f]
    simp (maxSteps := 4000000) (disch := first | omega | (dsimp only; omega)) only [w64, ob_s, bne_self, beq_self_eq_true, Bool.not_true, br_f, nn_dec, chk_t, dec_t, held_ByteS]) (fun k => by
    unfold B_l_heldOpS_2
    simp only [val_br, val_ob, val_leaf, val_chk, val_sm, mkL_len, ge_dec, br_f]) h0 h1
  unfold V_l_heldOpS T_l_heldOpS
  simp only [val_br, val_ob, val_leaf, val_chk, val_sm]
  rw [e]
  rfl
end
end Go.Proofs.Ythcbhopanefaiaa

/-
  That the program and the reference answer alike, in plain terms, and that the laws answer true.
-/
import Derived.Test.YtggdikabbngbaaaGreatW
namespace Go.Proofs.YtggdikabbngbaaaGreat
open Go.RowKit
set_option linter.unusedVariables false
set_option linter.unusedSimpArgs false
set_option maxHeartbeats 4000000
noncomputable section
theorem Ch {α : Type} {l : List α} {i : Nat} {x : α} (h : l[i]? = some x) : idx l (i : Int) = some x := (A7s l i).trans h
theorem As6 {α : Type} {l : List α} {i : Nat} {x : α} (h : i < l.length) : idx (l.set i x) (i : Int) = some x := by rw [A7s, List.getElem?_set_self h]
theorem El {i n : Nat} (h : i < n) : decide ((i : Int) < (n : Int)) = true := by simpa using h
theorem Gk (n : Nat) : decide ((n : Int) < (n : Int)) = false := by simp
theorem Cn {α : Type} [BEq α] [LawfulBEq α] (a : α) : (a != a) = false := by simp
theorem Ot {k : Int} (h : 0 ≤ k) : decide (k < 0) = false := by simpa using h
theorem Ao {p : Prop} [Decidable p] (h : p) : decide p = true := by simpa using h
theorem Bg {p : Prop} [Decidable p] (h : ¬ p) : decide p = false := by simpa using h
theorem Fv {E : Type} {w : E → Nat} (h : ∀ x, 1 ≤ w x) : ∀ l : List E, l.length ≤ Ad w l
 | [] => by simp [Ad]
 | x :: r => by simp only [Ad, List.length_cons]; have := h x; have := Fv h r; omega
theorem Cg {ρ : Type} {b : Bool} {x y : Option ρ} (h : b = false) : br b x y = y := by subst h; rfl
theorem Dq {ρ : Type} {b : Bool} {x y : Option ρ} (h : b = true) : br b x y = x := by subst h; rfl
theorem ml {n : Nat} (h : n ≤ maxLen) : n ≤ 9223372036854775807 := by unfold maxLen at h; omega
def w_B (d : YB) : Nat := 1
def m_B (d : YB) (k : Int) : YB := (IntKind.u8.wrap k, ())
def w_I (d : YI) : Nat := 1
def m_I (d : YI) (k : Int) : YI := (k, ())
def An (d : Aa) : Nat := d.2.2.1.length + d.2.2.2.1.length + d.2.2.2.2.2.1.length + d.2.2.2.2.2.2.1.length + d.2.2.2.2.2.2.2.2.2.1.length + d.2.2.2.2.2.2.2.2.2.2.1.length
def Jf (d : Aa) : Prop := d.2.2.1.length ≤ 9223372036854775807 ∧ d.2.2.2.1.length ≤ 9223372036854775807 ∧ d.2.2.2.2.2.1.length ≤ 9223372036854775807 ∧ d.2.2.2.2.2.2.1.length ≤ 9223372036854775807 ∧ d.2.2.2.2.2.2.2.2.2.1.length ≤ 9223372036854775807 ∧ d.2.2.2.2.2.2.2.2.2.2.1.length ≤ 9223372036854775807
def Dk (d : Aa) : Nat := 1 + 1 + Ad w_B d.2.2.1 + Ad w_B d.2.2.2.1 + 1 + Ad w_B d.2.2.2.2.2.1 + Ad w_B d.2.2.2.2.2.2.1 + 1 + 1 + Ad w_B d.2.2.2.2.2.2.2.2.2.1 + Ad w_B d.2.2.2.2.2.2.2.2.2.2.1
def Ai7 (d : Aa) (k : Int) : Aa := (k, k + 1, mkL m_B w_B d.2.2.1 (k + 1 + 1), mkL m_B w_B d.2.2.2.1 (k + 1 + 1 + (Ad w_B d.2.2.1 : Nat)), k + 1 + 1 + (Ad w_B d.2.2.1 : Nat) + (Ad w_B d.2.2.2.1 : Nat), mkL m_B w_B d.2.2.2.2.2.1 (k + 1 + 1 + (Ad w_B d.2.2.1 : Nat) + (Ad w_B d.2.2.2.1 : Nat) + 1), mkL m_B w_B d.2.2.2.2.2.2.1 (k + 1 + 1 + (Ad w_B d.2.2.1 : Nat) + (Ad w_B d.2.2.2.1 : Nat) + 1 + (Ad w_B d.2.2.2.2.2.1 : Nat)), k + 1 + 1 + (Ad w_B d.2.2.1 : Nat) + (Ad w_B d.2.2.2.1 : Nat) + 1 + (Ad w_B d.2.2.2.2.2.1 : Nat) + (Ad w_B d.2.2.2.2.2.2.1 : Nat), k + 1 + 1 + (Ad w_B d.2.2.1 : Nat) + (Ad w_B d.2.2.2.1 : Nat) + 1 + (Ad w_B d.2.2.2.2.2.1 : Nat) + (Ad w_B d.2.2.2.2.2.2.1 : Nat) + 1, mkL m_B w_B d.2.2.2.2.2.2.2.2.2.1 (k + 1 + 1 + (Ad w_B d.2.2.1 : Nat) + (Ad w_B d.2.2.2.1 : Nat) + 1 + (Ad w_B d.2.2.2.2.2.1 : Nat) + (Ad w_B d.2.2.2.2.2.2.1 : Nat) + 1 + 1), mkL m_B w_B d.2.2.2.2.2.2.2.2.2.2.1 (k + 1 + 1 + (Ad w_B d.2.2.1 : Nat) + (Ad w_B d.2.2.2.1 : Nat) + 1 + (Ad w_B d.2.2.2.2.2.1 : Nat) + (Ad w_B d.2.2.2.2.2.2.1 : Nat) + 1 + 1 + (Ad w_B d.2.2.2.2.2.2.2.2.2.1 : Nat)), ())
def Do (d : Aa) : Nat := Ad w_B d.2.2.1 + Ad w_B d.2.2.2.1 + Ad w_B d.2.2.2.2.2.1 + Ad w_B d.2.2.2.2.2.2.1 + Ad w_B d.2.2.2.2.2.2.2.2.2.1 + Ad w_B d.2.2.2.2.2.2.2.2.2.2.1
theorem Bf4 (d : Aa) : Dk d ≤ 32 * An d + 32 := by
 have h2 := Bz (f := w_B) (fun _ => by simp [w_B]) d.2.2.1
 have h3 := Bz (f := w_B) (fun _ => by simp [w_B]) d.2.2.2.1
 have h5 := Bz (f := w_B) (fun _ => by simp [w_B]) d.2.2.2.2.2.1
 have h6 := Bz (f := w_B) (fun _ => by simp [w_B]) d.2.2.2.2.2.2.1
 have h9 := Bz (f := w_B) (fun _ => by simp [w_B]) d.2.2.2.2.2.2.2.2.2.1
 have h10 := Bz (f := w_B) (fun _ => by simp [w_B]) d.2.2.2.2.2.2.2.2.2.2.1
 simp only [Dk, An]; omega
theorem Bc7 (d : Aa) : Do d ≤ 32 * An d + 32 := by
 have h2 := Bz (f := w_B) (fun _ => by simp [w_B]) d.2.2.1
 have h3 := Bz (f := w_B) (fun _ => by simp [w_B]) d.2.2.2.1
 have h5 := Bz (f := w_B) (fun _ => by simp [w_B]) d.2.2.2.2.2.1
 have h6 := Bz (f := w_B) (fun _ => by simp [w_B]) d.2.2.2.2.2.2.1
 have h9 := Bz (f := w_B) (fun _ => by simp [w_B]) d.2.2.2.2.2.2.2.2.2.1
 have h10 := Bz (f := w_B) (fun _ => by simp [w_B]) d.2.2.2.2.2.2.2.2.2.2.1
 simp only [Do, An]; omega
def Bk (d : Bi) : Nat := d.2.1.length
def Ai8 (d : Bi) : Prop := d.2.1.length ≤ 9223372036854775807
def Gl (d : Bi) : Nat := Ad w_I d.2.1
def Bc (d : YEp) : Nat := d.2.1.length + d.2.2.2.2.1.length
def A08 (d : YEp) : Prop := d.2.1.length ≤ 9223372036854775807 ∧ d.2.2.2.2.1.length ≤ 9223372036854775807
def Jk (d : YEp) : Nat := Ad w_B d.2.1 + Ad w_I d.2.2.2.2.1
def Az (d : Ag) : Nat := d.2.1.length + d.2.2.2.1.length + d.2.2.2.2.2.2.1.length + d.2.2.2.2.2.2.2.2.1.length + d.2.2.2.2.2.2.2.2.2.2.2.1.length + d.2.2.2.2.2.2.2.2.2.2.2.2.2.2.1.length
def As7 (d : Ag) : Prop := d.2.1.length ≤ 9223372036854775807 ∧ d.2.2.2.1.length ≤ 9223372036854775807 ∧ d.2.2.2.2.2.2.1.length ≤ 9223372036854775807 ∧ d.2.2.2.2.2.2.2.2.1.length ≤ 9223372036854775807 ∧ d.2.2.2.2.2.2.2.2.2.2.2.1.length ≤ 9223372036854775807 ∧ d.2.2.2.2.2.2.2.2.2.2.2.2.2.2.1.length ≤ 9223372036854775807
def E9 (d : Ag) : Nat := Ad w_B d.2.1 + Ad w_B d.2.2.2.1 + Ad w_I d.2.2.2.2.2.2.1 + Ad w_B d.2.2.2.2.2.2.2.2.1 + Ad w_I d.2.2.2.2.2.2.2.2.2.2.2.1 + Ad w_B d.2.2.2.2.2.2.2.2.2.2.2.2.2.2.1
def A9 (d : Ab) : Nat := d.2.1.length + d.2.2.2.2.2.1.length + d.2.2.2.2.2.2.2.2.1.length + d.2.2.2.2.2.2.2.2.2.1.length + d.2.2.2.2.2.2.2.2.2.2.2.1.length + d.2.2.2.2.2.2.2.2.2.2.2.2.1.length + d.2.2.2.2.2.2.2.2.2.2.2.2.2.2.2.1.length + d.2.2.2.2.2.2.2.2.2.2.2.2.2.2.2.2.1.length + d.2.2.2.2.2.2.2.2.2.2.2.2.2.2.2.2.2.2.1.length + d.2.2.2.2.2.2.2.2.2.2.2.2.2.2.2.2.2.2.2.2.1.length + d.2.2.2.2.2.2.2.2.2.2.2.2.2.2.2.2.2.2.2.2.2.2.2.1.length + d.2.2.2.2.2.2.2.2.2.2.2.2.2.2.2.2.2.2.2.2.2.2.2.2.2.1.length + d.2.2.2.2.2.2.2.2.2.2.2.2.2.2.2.2.2.2.2.2.2.2.2.2.2.2.2.2.1.length + d.2.2.2.2.2.2.2.2.2.2.2.2.2.2.2.2.2.2.2.2.2.2.2.2.2.2.2.2.2.2.2.1.length
def Pv (d : Ab) : Prop := d.2.1.length ≤ 9223372036854775807 ∧ d.2.2.2.2.2.1.length ≤ 9223372036854775807 ∧ d.2.2.2.2.2.2.2.2.1.length ≤ 9223372036854775807 ∧ d.2.2.2.2.2.2.2.2.2.1.length ≤ 9223372036854775807 ∧ d.2.2.2.2.2.2.2.2.2.2.2.1.length ≤ 9223372036854775807 ∧ d.2.2.2.2.2.2.2.2.2.2.2.2.1.length ≤ 9223372036854775807 ∧ d.2.2.2.2.2.2.2.2.2.2.2.2.2.2.2.1.length ≤ 9223372036854775807 ∧ d.2.2.2.2.2.2.2.2.2.2.2.2.2.2.2.2.1.length ≤ 9223372036854775807 ∧ d.2.2.2.2.2.2.2.2.2.2.2.2.2.2.2.2.2.2.1.length ≤ 9223372036854775807 ∧ d.2.2.2.2.2.2.2.2.2.2.2.2.2.2.2.2.2.2.2.2.1.length ≤ 9223372036854775807 ∧ d.2.2.2.2.2.2.2.2.2.2.2.2.2.2.2.2.2.2.2.2.2.2.2.1.length ≤ 9223372036854775807 ∧ d.2.2.2.2.2.2.2.2.2.2.2.2.2.2.2.2.2.2.2.2.2.2.2.2.2.1.length ≤ 9223372036854775807 ∧ d.2.2.2.2.2.2.2.2.2.2.2.2.2.2.2.2.2.2.2.2.2.2.2.2.2.2.2.2.1.length ≤ 9223372036854775807 ∧ d.2.2.2.2.2.2.2.2.2.2.2.2.2.2.2.2.2.2.2.2.2.2.2.2.2.2.2.2.2.2.2.1.length ≤ 9223372036854775807
def Fc (d : Ab) : Nat := Ad w_B d.2.1 + Ad w_B d.2.2.2.2.2.1 + Ad w_B d.2.2.2.2.2.2.2.2.1 + Ad w_B d.2.2.2.2.2.2.2.2.2.1 + Ad w_B d.2.2.2.2.2.2.2.2.2.2.2.1 + Ad w_B d.2.2.2.2.2.2.2.2.2.2.2.2.1 + Ad w_B d.2.2.2.2.2.2.2.2.2.2.2.2.2.2.2.1 + Ad w_B d.2.2.2.2.2.2.2.2.2.2.2.2.2.2.2.2.1 + Ad w_B d.2.2.2.2.2.2.2.2.2.2.2.2.2.2.2.2.2.2.1 + Ad w_B d.2.2.2.2.2.2.2.2.2.2.2.2.2.2.2.2.2.2.2.2.1 + Ad w_I d.2.2.2.2.2.2.2.2.2.2.2.2.2.2.2.2.2.2.2.2.2.2.2.1 + Ad w_B d.2.2.2.2.2.2.2.2.2.2.2.2.2.2.2.2.2.2.2.2.2.2.2.2.2.1 + Ad w_I d.2.2.2.2.2.2.2.2.2.2.2.2.2.2.2.2.2.2.2.2.2.2.2.2.2.2.2.2.1 + Ad w_B d.2.2.2.2.2.2.2.2.2.2.2.2.2.2.2.2.2.2.2.2.2.2.2.2.2.2.2.2.2.2.2.1
theorem Ar1 (d : Ab) : Fc d ≤ 32 * A9 d + 32 := by
 have h1 := Bz (f := w_B) (fun _ => by simp [w_B]) d.2.1
 have h5 := Bz (f := w_B) (fun _ => by simp [w_B]) d.2.2.2.2.2.1
 have h8 := Bz (f := w_B) (fun _ => by simp [w_B]) d.2.2.2.2.2.2.2.2.1
 have h9 := Bz (f := w_B) (fun _ => by simp [w_B]) d.2.2.2.2.2.2.2.2.2.1
 have h11 := Bz (f := w_B) (fun _ => by simp [w_B]) d.2.2.2.2.2.2.2.2.2.2.2.1
 have h12 := Bz (f := w_B) (fun _ => by simp [w_B]) d.2.2.2.2.2.2.2.2.2.2.2.2.1
 have h15 := Bz (f := w_B) (fun _ => by simp [w_B]) d.2.2.2.2.2.2.2.2.2.2.2.2.2.2.2.1
 have h16 := Bz (f := w_B) (fun _ => by simp [w_B]) d.2.2.2.2.2.2.2.2.2.2.2.2.2.2.2.2.1
 have h18 := Bz (f := w_B) (fun _ => by simp [w_B]) d.2.2.2.2.2.2.2.2.2.2.2.2.2.2.2.2.2.2.1
 have h20 := Bz (f := w_B) (fun _ => by simp [w_B]) d.2.2.2.2.2.2.2.2.2.2.2.2.2.2.2.2.2.2.2.2.1
 have h23 := Bz (f := w_I) (fun _ => by simp [w_I]) d.2.2.2.2.2.2.2.2.2.2.2.2.2.2.2.2.2.2.2.2.2.2.2.1
 have h25 := Bz (f := w_B) (fun _ => by simp [w_B]) d.2.2.2.2.2.2.2.2.2.2.2.2.2.2.2.2.2.2.2.2.2.2.2.2.2.1
 have h28 := Bz (f := w_I) (fun _ => by simp [w_I]) d.2.2.2.2.2.2.2.2.2.2.2.2.2.2.2.2.2.2.2.2.2.2.2.2.2.2.2.2.1
 have h31 := Bz (f := w_B) (fun _ => by simp [w_B]) d.2.2.2.2.2.2.2.2.2.2.2.2.2.2.2.2.2.2.2.2.2.2.2.2.2.2.2.2.2.2.2.1
 simp only [Fc, A9]; omega
def Iq (d : Gn) : Nat := 0
def Bmn (d : Gn) : Prop := True
def Ir (d : B9) : Nat := 0
def Bkq (d : B9) : Prop := True
def Ci (d : Af) : Nat := d.2.2.2.1.length + d.2.2.2.2.1.length + d.2.2.2.2.2.2.2.1.length + d.2.2.2.2.2.2.2.2.1.length
def Ea (d : Af) : Nat := 1 + 1 + 1 + Ad w_B d.2.2.2.1 + Ad w_B d.2.2.2.2.1 + 1 + 1 + Ad w_B d.2.2.2.2.2.2.2.1 + Ad w_B d.2.2.2.2.2.2.2.2.1 + 1 + 1 + 1
def Ar2 (d : Af) (k : Int) : Af := (k, k + 1, k + 1 + 1, mkL m_B w_B d.2.2.2.1 (k + 1 + 1 + 1), mkL m_B w_B d.2.2.2.2.1 (k + 1 + 1 + 1 + (Ad w_B d.2.2.2.1 : Nat)), k + 1 + 1 + 1 + (Ad w_B d.2.2.2.1 : Nat) + (Ad w_B d.2.2.2.2.1 : Nat), k + 1 + 1 + 1 + (Ad w_B d.2.2.2.1 : Nat) + (Ad w_B d.2.2.2.2.1 : Nat) + 1, mkL m_B w_B d.2.2.2.2.2.2.2.1 (k + 1 + 1 + 1 + (Ad w_B d.2.2.2.1 : Nat) + (Ad w_B d.2.2.2.2.1 : Nat) + 1 + 1), mkL m_B w_B d.2.2.2.2.2.2.2.2.1 (k + 1 + 1 + 1 + (Ad w_B d.2.2.2.1 : Nat) + (Ad w_B d.2.2.2.2.1 : Nat) + 1 + 1 + (Ad w_B d.2.2.2.2.2.2.2.1 : Nat)), k + 1 + 1 + 1 + (Ad w_B d.2.2.2.1 : Nat) + (Ad w_B d.2.2.2.2.1 : Nat) + 1 + 1 + (Ad w_B d.2.2.2.2.2.2.2.1 : Nat) + (Ad w_B d.2.2.2.2.2.2.2.2.1 : Nat), k + 1 + 1 + 1 + (Ad w_B d.2.2.2.1 : Nat) + (Ad w_B d.2.2.2.2.1 : Nat) + 1 + 1 + (Ad w_B d.2.2.2.2.2.2.2.1 : Nat) + (Ad w_B d.2.2.2.2.2.2.2.2.1 : Nat) + 1, k + 1 + 1 + 1 + (Ad w_B d.2.2.2.1 : Nat) + (Ad w_B d.2.2.2.2.1 : Nat) + 1 + 1 + (Ad w_B d.2.2.2.2.2.2.2.1 : Nat) + (Ad w_B d.2.2.2.2.2.2.2.2.1 : Nat) + 1 + 1, ())
theorem Bif (d : Af) : Ea d ≤ 32 * Ci d + 32 := by
 have h3 := Bz (f := w_B) (fun _ => by simp [w_B]) d.2.2.2.1
 have h4 := Bz (f := w_B) (fun _ => by simp [w_B]) d.2.2.2.2.1
 have h7 := Bz (f := w_B) (fun _ => by simp [w_B]) d.2.2.2.2.2.2.2.1
 have h8 := Bz (f := w_B) (fun _ => by simp [w_B]) d.2.2.2.2.2.2.2.2.1
 simp only [Ea, Ci]; omega
theorem Ac5 (d : List YB × Unit) (n : Int) (h0 : -1 ≤ n) (h1 : n ≤ 1099511627776) (hl : d.1.length ≤ 9223372036854775807) : Dh d (n, ()) = some (szR (d.1.length) n, ()) := by
 unfold Dh Afc
 simp only [Ah, Ae]
 simp (disch := omega) only [w64]
 unfold szR
 rw [A9n]
 by_cases h : (d.1.length : Int) ≤ n
 ·simp only [decide_eq_true_eq, if_neg (show ¬ (n - (d.1.length : Int) < 0) by omega), if_pos h]
 ·simp only [decide_eq_true_eq, if_pos (show n - (d.1.length : Int) < 0 by omega), if_neg h]
theorem Ac6 (d : List YB × Unit) (h : d.1.length ≤ 4294967296) : Di d = some d := by
 have e := fun (m : List YB) (hm : m.length = d.1.length) => Bd4 (B := H2) (m := m) (l := d.1) (ok := fun _ => True) (fun m i x y hx hi hy => by
  unfold H2
  simp only [Ah, Ak, Ae, Am, Bb, El hi, Ay, Ch hx, Ch hy, Al, Int.toNat_natCast]
  rw [w64 (by omega)]) (fun m => by
  unfold H2
  simp only [Ah, Ak, Ae, Am, Bb, Gk, Ap]) hm
 unfold Di Oa
 simp only [Ah, Ak, Ae, Am, Bb, decide_true]
 rw [Ao (by omega), Ao (by omega), A8, A8, A8, e _ (by simp)]
 rfl
theorem Mu (d : List YB × Unit) (h : d.1.length ≤ 4294967296) : Cs d d = some (true, ()) := by
 have e := As8 (B := H6) (l := d.1) (fun i x hx hi => by
  unfold H6
  simp only [Ah, Ak, Ae, Am, Bb, El hi, Ay, Ch hx, Al, Cn, Ap]
  rw [w64 (by omega)]) (by
  unfold H6
  simp only [Ah, Ak, Ae, Am, Bb, Gk, Ap])
 unfold Cs Of
 simp only [Ah, Ak, Ae, Am, Bb, Cn, Ap]
 rw [e]
 rfl
theorem Is (d : List YB × Unit) (k : Int) (h0 : 0 ≤ k) (h1 : k + (Ad w_B d.1 : Nat) ≤ 4611686018427387904) : Bq d (k, ()) = some ((k + (Ad w_B d.1 : Nat), ()), (mkL m_B w_B d.1 k, ())) := by
 have hl := Fv (w := w_B) (fun x => by simp only [w_B]; omega) d.1
 have e := Aer (B := F6) m_B w_B (l := d.1) (fun t k i x ht hx hlen h0 h1 hi => by
  have hit : i < t.length := by omega
  have hk : k + ((w_B x : Nat) : Int) = k + 1 := by simp only [w_B]; all_goals omega
  rw [hk]
  unfold F6
  simp (maxSteps := 4000000) only [Ah, Ak, Ae, Am, Bb, El hit, Ay, Ch ht, Al, Int.toNat_natCast]
  simp only [w_B] at *
  simp (maxSteps := 4000000) (disch := first | omega | (dsimp only; omega) | (simp only [List.length_set]; omega)) only [w64, As6, List.set_set, Al, Int.toNat_natCast, A8, Ao]
  rfl) (fun t k hlen => by
  unfold F6
  exact (Ah _ _ _).trans ((Cg (by simp [hlen])).trans rfl)) h0 h1
 unfold Bq Lb
 simp only [Ah, Ak, Ae, Am, Bb]
 rw [e]
 rfl
theorem It (d : List YB) (k : Int) (h0 : 0 ≤ k) (h1 : k + (Ad w_B d : Nat) ≤ 4611686018427387904) : Br (mkL m_B w_B d k, ()) (k, ()) = some (k + (Ad w_B d : Nat), ()) := by
 have hl := Fv (w := w_B) (fun x => by simp only [w_B]; omega) d
 have e := Aes (B := F8) m_B w_B (l := d) (k := k) (fun k i x ht hx h0 h1 hi => by
  have hk : k + ((w_B x : Nat) : Int) = k + 1 := by simp only [w_B]; all_goals omega
  rw [hk]
  unfold F8
  simp only [Ah, Ak, Ae, Am, Bb, Ig, El hi, Ay, Ch ht, Al, m_B, Cn, Ap]
  simp only [w_B] at *
  simp (maxSteps := 4000000) (disch := first | omega | (dsimp only; omega)) only [w64, Al, Cn, beq_self_eq_true, Bool.not_true, Ap, Ot, A8, Ao]) (fun k => by
  unfold F8
  simp only [Ah, Ak, Ae, Am, Bb, Ig, Gk, Ap]) h0 h1
 unfold Br Ld
 simp only [Ah, Ak, Ae, Am, Bb]
 rw [e]
 rfl
theorem Ac7 (d : Aa) (n : Int) (h0 : -1 ≤ n) (h1 : n ≤ 1099511627776) (hl : Jf d) : To d (n, ()) = some (szR (An d) n, ()) := by
 unfold Jf at hl
 obtain ⟨hl0, hl1, hl2, hl3, hl4, hl5⟩ := hl
 unfold To Afd
 simp only [Ah, Ak, Ae, Am, Bb]
 simp (disch := first | omega | (dsimp only; omega) | exact Ar3 _ _ | exact Ai9 (by omega) (by omega) | ((repeat' (first | assumption | apply And.intro)); done) | ((first | unfold Jf); dsimp only; (repeat' (first | assumption | apply And.intro)); done)) only [Ac5, Al, Aja]
 all_goals try simp (disch := first | omega | (simp only [An]; omega)) only [A9o]
 all_goals (first | rfl | (refine congrArg (fun t => some (szR t n, ())) ?_; simp only [An]; omega))
theorem Ac8 (d : Aa) (h : An d ≤ 4294967296) : I5 d = some d := by
 have hn : An d = d.2.2.1.length + d.2.2.2.1.length + d.2.2.2.2.2.1.length + d.2.2.2.2.2.2.1.length + d.2.2.2.2.2.2.2.2.2.1.length + d.2.2.2.2.2.2.2.2.2.2.1.length := rfl
 unfold I5 Afe
 simp only [Ah, Ak, Ae, Am, Bb]
 simp (disch := first | omega | (simp only [An]; omega)) only [Ac6, Al]
 all_goals rfl
theorem K0 (d : Aa) (h : An d ≤ 4294967296) : Og d d = some (true, ()) := by
 have hn : An d = d.2.2.1.length + d.2.2.2.1.length + d.2.2.2.2.2.1.length + d.2.2.2.2.2.2.1.length + d.2.2.2.2.2.2.2.2.2.1.length + d.2.2.2.2.2.2.2.2.2.2.1.length := rfl
 unfold Og Agc
 simp (disch := first | omega | (simp only [An]; omega)) only [Ah, Ak, Ae, Am, Bb, Cn, beq_self_eq_true, Ap, Al, Bool.not_true, Mu]
theorem Iu (d : Aa) (k : Int) (h0 : 0 ≤ k) (h1 : k + (Do d : Nat) ≤ 4611686018427387904) (hl : An d ≤ 4294967296) : Pa d (k, ()) = some ((k + (Do d : Nat), ()), (d.1, d.2.1, mkL m_B w_B d.2.2.1 (k), mkL m_B w_B d.2.2.2.1 (k + (Ad w_B d.2.2.1 : Nat)), d.2.2.2.2.1, mkL m_B w_B d.2.2.2.2.2.1 (k + (Ad w_B d.2.2.1 : Nat) + (Ad w_B d.2.2.2.1 : Nat)), mkL m_B w_B d.2.2.2.2.2.2.1 (k + (Ad w_B d.2.2.1 : Nat) + (Ad w_B d.2.2.2.1 : Nat) + (Ad w_B d.2.2.2.2.2.1 : Nat)), d.2.2.2.2.2.2.2.1, d.2.2.2.2.2.2.2.2.1, mkL m_B w_B d.2.2.2.2.2.2.2.2.2.1 (k + (Ad w_B d.2.2.1 : Nat) + (Ad w_B d.2.2.2.1 : Nat) + (Ad w_B d.2.2.2.2.2.1 : Nat) + (Ad w_B d.2.2.2.2.2.2.1 : Nat)), mkL m_B w_B d.2.2.2.2.2.2.2.2.2.2.1 (k + (Ad w_B d.2.2.1 : Nat) + (Ad w_B d.2.2.2.1 : Nat) + (Ad w_B d.2.2.2.2.2.1 : Nat) + (Ad w_B d.2.2.2.2.2.2.1 : Nat) + (Ad w_B d.2.2.2.2.2.2.2.2.2.1 : Nat)), ())) := by
 have hn : An d = d.2.2.1.length + d.2.2.2.1.length + d.2.2.2.2.2.1.length + d.2.2.2.2.2.2.1.length + d.2.2.2.2.2.2.2.2.2.1.length + d.2.2.2.2.2.2.2.2.2.2.1.length := rfl
 have hw : Do d = Ad w_B d.2.2.1 + Ad w_B d.2.2.2.1 + Ad w_B d.2.2.2.2.2.1 + Ad w_B d.2.2.2.2.2.2.1 + Ad w_B d.2.2.2.2.2.2.2.2.2.1 + Ad w_B d.2.2.2.2.2.2.2.2.2.2.1 := rfl
 have hk : k + ((Do d : Nat) : Int) = k + (Ad w_B d.2.2.1 : Nat) + (Ad w_B d.2.2.2.1 : Nat) + (Ad w_B d.2.2.2.2.2.1 : Nat) + (Ad w_B d.2.2.2.2.2.2.1 : Nat) + (Ad w_B d.2.2.2.2.2.2.2.2.2.1 : Nat) + (Ad w_B d.2.2.2.2.2.2.2.2.2.2.1 : Nat) := by simp only [Do]; all_goals omega
 rw [hk]
 unfold Pa Ve
 simp (maxSteps := 4000000) (disch := first | omega | (dsimp only; omega)) only [Ah, Ak, Ae, Am, Bb, Al, Is]
theorem Iv (d : Aa) (k : Int) (h0 : 0 ≤ k) (h1 : k + (Do d : Nat) ≤ 4611686018427387904) (hl : An d ≤ 4294967296) : Pb (d.1, d.2.1, mkL m_B w_B d.2.2.1 (k), mkL m_B w_B d.2.2.2.1 (k + (Ad w_B d.2.2.1 : Nat)), d.2.2.2.2.1, mkL m_B w_B d.2.2.2.2.2.1 (k + (Ad w_B d.2.2.1 : Nat) + (Ad w_B d.2.2.2.1 : Nat)), mkL m_B w_B d.2.2.2.2.2.2.1 (k + (Ad w_B d.2.2.1 : Nat) + (Ad w_B d.2.2.2.1 : Nat) + (Ad w_B d.2.2.2.2.2.1 : Nat)), d.2.2.2.2.2.2.2.1, d.2.2.2.2.2.2.2.2.1, mkL m_B w_B d.2.2.2.2.2.2.2.2.2.1 (k + (Ad w_B d.2.2.1 : Nat) + (Ad w_B d.2.2.2.1 : Nat) + (Ad w_B d.2.2.2.2.2.1 : Nat) + (Ad w_B d.2.2.2.2.2.2.1 : Nat)), mkL m_B w_B d.2.2.2.2.2.2.2.2.2.2.1 (k + (Ad w_B d.2.2.1 : Nat) + (Ad w_B d.2.2.2.1 : Nat) + (Ad w_B d.2.2.2.2.2.1 : Nat) + (Ad w_B d.2.2.2.2.2.2.1 : Nat) + (Ad w_B d.2.2.2.2.2.2.2.2.2.1 : Nat)), ()) (k, ()) = some (k + (Do d : Nat), ()) := by
 have hn : An d = d.2.2.1.length + d.2.2.2.1.length + d.2.2.2.2.2.1.length + d.2.2.2.2.2.2.1.length + d.2.2.2.2.2.2.2.2.2.1.length + d.2.2.2.2.2.2.2.2.2.2.1.length := rfl
 have hw : Do d = Ad w_B d.2.2.1 + Ad w_B d.2.2.2.1 + Ad w_B d.2.2.2.2.2.1 + Ad w_B d.2.2.2.2.2.2.1 + Ad w_B d.2.2.2.2.2.2.2.2.2.1 + Ad w_B d.2.2.2.2.2.2.2.2.2.2.1 := rfl
 have hk : k + ((Do d : Nat) : Int) = k + (Ad w_B d.2.2.1 : Nat) + (Ad w_B d.2.2.2.1 : Nat) + (Ad w_B d.2.2.2.2.2.1 : Nat) + (Ad w_B d.2.2.2.2.2.2.1 : Nat) + (Ad w_B d.2.2.2.2.2.2.2.2.2.1 : Nat) + (Ad w_B d.2.2.2.2.2.2.2.2.2.2.1 : Nat) := by simp only [Do]; all_goals omega
 rw [hk]
 unfold Pb Vg
 simp (maxSteps := 4000000) (disch := first | omega | (dsimp only; omega)) only [Ah, Ak, Ae, Am, Bb, Al, Ap, Ot, It]
theorem Bc8 (c0 : Int) (c1 : Int) (c2 : List YB) (c3 : List YB) (c4 : Int) (c5 : List YB) (c6 : List YB) (c7 : Int) (c8 : Int) (c9 : List YB) (c10 : List YB) (k : Int) (h0 : 0 ≤ k) (h1 : k + (Do (c0, c1, c2, c3, c4, c5, c6, c7, c8, c9, c10, ()) : Nat) ≤ 4611686018427387904) (hl : An (c0, c1, c2, c3, c4, c5, c6, c7, c8, c9, c10, ()) ≤ 4294967296) : Pb (c0, c1, mkL m_B w_B c2 (k), mkL m_B w_B c3 (k + (Ad w_B c2 : Nat)), c4, mkL m_B w_B c5 (k + (Ad w_B c2 : Nat) + (Ad w_B c3 : Nat)), mkL m_B w_B c6 (k + (Ad w_B c2 : Nat) + (Ad w_B c3 : Nat) + (Ad w_B c5 : Nat)), c7, c8, mkL m_B w_B c9 (k + (Ad w_B c2 : Nat) + (Ad w_B c3 : Nat) + (Ad w_B c5 : Nat) + (Ad w_B c6 : Nat)), mkL m_B w_B c10 (k + (Ad w_B c2 : Nat) + (Ad w_B c3 : Nat) + (Ad w_B c5 : Nat) + (Ad w_B c6 : Nat) + (Ad w_B c9 : Nat)), ()) (k, ()) = some (k + (Do (c0, c1, c2, c3, c4, c5, c6, c7, c8, c9, c10, ()) : Nat), ()) := Iv (c0, c1, c2, c3, c4, c5, c6, c7, c8, c9, c10, ()) k h0 h1 hl
theorem As9 (d : List YI × Unit) (n : Int) (h0 : -1 ≤ n) (h1 : n ≤ 1099511627776) (hl : d.1.length ≤ 9223372036854775807) : Ajw d (n, ()) = some (szR (d.1.length) n, ()) := by
 unfold Ajw Ajv
 simp only [Ah, Ae]
 simp (disch := omega) only [w64]
 unfold szR
 rw [A9n]
 by_cases h : (d.1.length : Int) ≤ n
 ·simp only [decide_eq_true_eq, if_neg (show ¬ (n - (d.1.length : Int) < 0) by omega), if_pos h]
 ·simp only [decide_eq_true_eq, if_pos (show n - (d.1.length : Int) < 0 by omega), if_neg h]
theorem Ata (d : List YI × Unit) (h : d.1.length ≤ 4294967296) : Aj2 d = some d := by
 have e := fun (m : List YI) (hm : m.length = d.1.length) => Bd4 (B := Jm) (m := m) (l := d.1) (ok := fun _ => True) (fun m i x y hx hi hy => by
  unfold Jm
  simp only [Ah, Ak, Ae, Am, Bb, El hi, Ay, Ch hx, Ch hy, Al, Int.toNat_natCast]
  rw [w64 (by omega)]) (fun m => by
  unfold Jm
  simp only [Ah, Ak, Ae, Am, Bb, Gk, Ap]) hm
 unfold Aj2 Qj
 simp only [Ah, Ak, Ae, Am, Bb, decide_true]
 rw [Ao (by omega), Ao (by omega), A8, A8, A8, e _ (by simp)]
 rfl
theorem S9 (d : List YI × Unit) (h : d.1.length ≤ 4294967296) : Alo d d = some (true, ()) := by
 have e := As8 (B := Js) (l := d.1) (fun i x hx hi => by
  unfold Js
  simp only [Ah, Ak, Ae, Am, Bb, El hi, Ay, Ch hx, Al, Cn, Ap]
  rw [w64 (by omega)]) (by
  unfold Js
  simp only [Ah, Ak, Ae, Am, Bb, Gk, Ap])
 unfold Alo Q5
 simp only [Ah, Ak, Ae, Am, Bb, Cn, Ap]
 rw [e]
 rfl
theorem Pw (d : List YI × Unit) (k : Int) (h0 : 0 ≤ k) (h1 : k + (Ad w_I d.1 : Nat) ≤ 4611686018427387904) : Ab6 d (k, ()) = some ((k + (Ad w_I d.1 : Nat), ()), (mkL m_I w_I d.1 k, ())) := by
 have hl := Fv (w := w_I) (fun x => by simp only [w_I]; omega) d.1
 have e := Aer (B := G7) m_I w_I (l := d.1) (fun t k i x ht hx hlen h0 h1 hi => by
  have hit : i < t.length := by omega
  have hk : k + ((w_I x : Nat) : Int) = k + 1 := by simp only [w_I]; all_goals omega
  rw [hk]
  unfold G7
  simp (maxSteps := 4000000) only [Ah, Ak, Ae, Am, Bb, El hit, Ay, Ch ht, Al, Int.toNat_natCast]
  simp only [w_I] at *
  simp (maxSteps := 4000000) (disch := first | omega | (dsimp only; omega) | (simp only [List.length_set]; omega)) only [w64, As6, List.set_set, Al, Int.toNat_natCast, A8, Ao, Is, Iu]
  rfl) (fun t k hlen => by
  unfold G7
  exact (Ah _ _ _).trans ((Cg (by simp [hlen])).trans rfl)) h0 h1
 unfold Ab6 Mk
 simp only [Ah, Ak, Ae, Am, Bb]
 rw [e]
 rfl
theorem Px (d : List YI) (k : Int) (h0 : 0 ≤ k) (h1 : k + (Ad w_I d : Nat) ≤ 4611686018427387904) : Ab9 (mkL m_I w_I d k, ()) (k, ()) = some (k + (Ad w_I d : Nat), ()) := by
 have hl := Fv (w := w_I) (fun x => by simp only [w_I]; omega) d
 have e := Aes (B := G8) m_I w_I (l := d) (k := k) (fun k i x ht hx h0 h1 hi => by
  have hk : k + ((w_I x : Nat) : Int) = k + 1 := by simp only [w_I]; all_goals omega
  rw [hk]
  unfold G8
  simp only [Ah, Ak, Ae, Am, Bb, Ig, El hi, Ay, Ch ht, Al, m_I, Cn, Ap]
  simp only [w_I] at *
  simp (maxSteps := 4000000) (disch := first | omega | (dsimp only; omega)) only [w64, Al, Cn, beq_self_eq_true, Bool.not_true, Ap, Ot, A8, Ao, It, Iv]) (fun k => by
  unfold G8
  simp only [Ah, Ak, Ae, Am, Bb, Ig, Gk, Ap]) h0 h1
 unfold Ab9 Ml
 simp only [Ah, Ak, Ae, Am, Bb]
 rw [e]
 rfl
theorem A9p (d : Bi) (n : Int) (h0 : -1 ≤ n) (h1 : n ≤ 1099511627776) (hl : Ai8 d) : Aox d (n, ()) = some (szR (Bk d) n, ()) := by
 unfold Ai8 at hl
 skip
 unfold Aox Aow
 simp only [Ah, Ak, Ae, Am, Bb]
 simp (disch := first | omega | (dsimp only; omega) | exact Ar3 _ _ | exact Ai9 (by omega) (by omega) | ((repeat' (first | assumption | apply And.intro)); done) | ((first | unfold Ai8 | unfold Jf); dsimp only; (repeat' (first | assumption | apply And.intro)); done)) only [Ac5, Ac7, As9, Al, Aja]
 all_goals try simp (disch := first | omega | (simp only [Bk, An]; omega)) only [A9o]
 all_goals (first | rfl | (refine congrArg (fun t => some (szR t n, ())) ?_; simp only [Bk, An]; omega))
theorem A9q (d : Bi) (h : Bk d ≤ 4294967296) : Aoz d = some d := by
 have hn : Bk d = d.2.1.length := rfl
 unfold Aoz Aoy
 simp only [Ah, Ak, Ae, Am, Bb]
 simp (disch := first | omega | (simp only [Bk, An]; omega)) only [Ac6, Ac8, Ata, Al]
 all_goals rfl
theorem Ajb (d : Bi) (h : Bk d ≤ 4294967296) : Apg d d = some (true, ()) := by
 have hn : Bk d = d.2.1.length := rfl
 unfold Apg Apf
 simp (disch := first | omega | (simp only [Bk, An]; omega)) only [Ah, Ak, Ae, Am, Bb, Cn, beq_self_eq_true, Ap, Al, Bool.not_true, Mu, K0, S9]
theorem Ac9 (d : Bi) (k : Int) (h0 : 0 ≤ k) (h1 : k + (Gl d : Nat) ≤ 4611686018427387904) (hl : Bk d ≤ 4294967296) : Agf d (k, ()) = some ((k + (Gl d : Nat), ()), (d.1, mkL m_I w_I d.2.1 (k), ())) := by
 have hn : Bk d = d.2.1.length := rfl
 have hw : Gl d = Ad w_I d.2.1 := rfl
 have hk : k + ((Gl d : Nat) : Int) = k + (Ad w_I d.2.1 : Nat) := by simp only [Gl]; all_goals omega
 rw [hk]
 unfold Agf Age
 simp (maxSteps := 4000000) (disch := first | omega | (dsimp only; omega)) only [Ah, Ak, Ae, Am, Bb, Al, Is, Iu, Pw]
theorem Ta (d : Bi) (k : Int) (h0 : 0 ≤ k) (h1 : k + (Gl d : Nat) ≤ 4611686018427387904) (hl : Bk d ≤ 4294967296) : Tx (d.1, mkL m_I w_I d.2.1 (k), ()) (k, ()) = some (k + (Gl d : Nat), ()) := by
 have hn : Bk d = d.2.1.length := rfl
 have hw : Gl d = Ad w_I d.2.1 := rfl
 have hk : k + ((Gl d : Nat) : Int) = k + (Ad w_I d.2.1 : Nat) := by simp only [Gl]; all_goals omega
 rw [hk]
 unfold Tx Agg
 simp (maxSteps := 4000000) (disch := first | omega | (dsimp only; omega)) only [Ah, Ak, Ae, Am, Bb, Al, Ap, Ot, It, Iv, Px]
theorem Big (c0 : Int) (c1 : List YI) (k : Int) (h0 : 0 ≤ k) (h1 : k + (Gl (c0, c1, ()) : Nat) ≤ 4611686018427387904) (hl : Bk (c0, c1, ()) ≤ 4294967296) : Tx (c0, mkL m_I w_I c1 (k), ()) (k, ()) = some (k + (Gl (c0, c1, ()) : Nat), ()) := Ta (c0, c1, ()) k h0 h1 hl
theorem Bmb (d : YEp) (n : Int) (h0 : -1 ≤ n) (h1 : n ≤ 1099511627776) (hl : A08 d) : Ajx d (n, ()) = some (szR (Bc d) n, ()) := by
 unfold A08 at hl
 obtain ⟨hl0, hl1⟩ := hl
 unfold Ajx Avr
 simp only [Ah, Ak, Ae, Am, Bb]
 simp (disch := first | omega | (dsimp only; omega) | exact Ar3 _ _ | exact Ai9 (by omega) (by omega) | ((repeat' (first | assumption | apply And.intro)); done) | ((first | unfold A08 | unfold Jf | unfold Ai8); dsimp only; (repeat' (first | assumption | apply And.intro)); done)) only [Ac5, Ac7, As9, A9p, Al, Aja]
 all_goals try simp (disch := first | omega | (simp only [Bc, An, Bk]; omega)) only [A9o]
 all_goals (first | rfl | (refine congrArg (fun t => some (szR t n, ())) ?_; simp only [Bc, An, Bk]; omega))
theorem Bmc (d : YEp) (h : Bc d ≤ 4294967296) : Aj3 d = some d := by
 have hn : Bc d = d.2.1.length + d.2.2.2.2.1.length := rfl
 unfold Aj3 Avs
 simp only [Ah, Ak, Ae, Am, Bb]
 simp (disch := first | omega | (simp only [Bc, An, Bk]; omega)) only [Ac6, Ac8, Ata, A9q, Al]
 all_goals rfl
theorem A09 (d : YEp) (h : Bc d ≤ 4294967296) : Alp d d = some (true, ()) := by
 have hn : Bc d = d.2.1.length + d.2.2.2.2.1.length := rfl
 unfold Alp Av7
 simp (disch := first | omega | (simp only [Bc, An, Bk]; omega)) only [Ah, Ak, Ae, Am, Bb, Cn, beq_self_eq_true, Ap, Al, Bool.not_true, Mu, K0, S9, Ajb]
theorem Atb (d : YEp) (k : Int) (h0 : 0 ≤ k) (h1 : k + (Jk d : Nat) ≤ 4611686018427387904) (hl : Bc d ≤ 4294967296) : Z1 d (k, ()) = some ((k + (Jk d : Nat), ()), (d.1, mkL m_B w_B d.2.1 (k), d.2.2.1, d.2.2.2.1, mkL m_I w_I d.2.2.2.2.1 (k + (Ad w_B d.2.1 : Nat)), ())) := by
 have hn : Bc d = d.2.1.length + d.2.2.2.2.1.length := rfl
 have hw : Jk d = Ad w_B d.2.1 + Ad w_I d.2.2.2.2.1 := rfl
 have hk : k + ((Jk d : Nat) : Int) = k + (Ad w_B d.2.1 : Nat) + (Ad w_I d.2.2.2.2.1 : Nat) := by simp only [Jk]; all_goals omega
 rw [hk]
 unfold Z1 Alu
 simp (maxSteps := 4000000) (disch := first | omega | (dsimp only; omega) | (simp only [Bk, Gl, Int.natCast_add]; omega)) only [Ah, Ak, Ae, Am, Bb, Al, Is, Iu, Pw, Ac9, Gl, Int.natCast_add, ← Int.add_assoc]
theorem Ajc (d : YEp) (k : Int) (h0 : 0 ≤ k) (h1 : k + (Jk d : Nat) ≤ 4611686018427387904) (hl : Bc d ≤ 4294967296) : Q6 (d.1, mkL m_B w_B d.2.1 (k), d.2.2.1, d.2.2.2.1, mkL m_I w_I d.2.2.2.2.1 (k + (Ad w_B d.2.1 : Nat)), ()) (k, ()) = some (k + (Jk d : Nat), ()) := by
 have hn : Bc d = d.2.1.length + d.2.2.2.2.1.length := rfl
 have hw : Jk d = Ad w_B d.2.1 + Ad w_I d.2.2.2.2.1 := rfl
 have hk : k + ((Jk d : Nat) : Int) = k + (Ad w_B d.2.1 : Nat) + (Ad w_I d.2.2.2.2.1 : Nat) := by simp only [Jk]; all_goals omega
 rw [hk]
 unfold Q6 Alv
 simp (maxSteps := 4000000) (disch := first | omega | (dsimp only; omega) | (simp only [Bk, Gl, Int.natCast_add]; omega)) only [Ah, Ak, Ae, Am, Bb, Al, Ap, Ot, It, Iv, Px, Ta, Gl, Int.natCast_add, ← Int.add_assoc, Big]
theorem Bkr (c0 : Int) (c1 : List YB) (c2 : Int) (c3 : Int) (c4 : List YI) (k : Int) (h0 : 0 ≤ k) (h1 : k + (Jk (c0, c1, c2, c3, c4, ()) : Nat) ≤ 4611686018427387904) (hl : Bc (c0, c1, c2, c3, c4, ()) ≤ 4294967296) : Q6 (c0, mkL m_B w_B c1 (k), c2, c3, mkL m_I w_I c4 (k + (Ad w_B c1 : Nat)), ()) (k, ()) = some (k + (Jk (c0, c1, c2, c3, c4, ()) : Nat), ()) := Ajc (c0, c1, c2, c3, c4, ()) k h0 h1 hl
theorem Bmo (d : Ag) (n : Int) (h0 : -1 ≤ n) (h1 : n ≤ 1099511627776) (hl : As7 d) : Ajz d (n, ()) = some (szR (Az d) n, ()) := by
 unfold As7 at hl
 obtain ⟨hl0, hl1, hl2, hl3, hl4, hl5⟩ := hl
 unfold Ajz Ajy
 simp only [Ah, Ak, Ae, Am, Bb]
 simp (disch := first | omega | (dsimp only; omega) | exact Ar3 _ _ | exact Ai9 (by omega) (by omega) | ((repeat' (first | assumption | apply And.intro)); done) | ((first | unfold As7 | unfold Jf | unfold Ai8 | unfold A08); dsimp only; (repeat' (first | assumption | apply And.intro)); done)) only [Ac5, Ac7, As9, A9p, Bmb, Al, Aja]
 all_goals try simp (disch := first | omega | (simp only [Az, An, Bk, Bc]; omega)) only [A9o]
 all_goals (first | rfl | (refine congrArg (fun t => some (szR t n, ())) ?_; simp only [Az, An, Bk, Bc]; omega))
theorem Bmp (d : Ag) (h : Az d ≤ 4294967296) : Aj5 d = some d := by
 have hn : Az d = d.2.1.length + d.2.2.2.1.length + d.2.2.2.2.2.2.1.length + d.2.2.2.2.2.2.2.2.1.length + d.2.2.2.2.2.2.2.2.2.2.2.1.length + d.2.2.2.2.2.2.2.2.2.2.2.2.2.2.1.length := rfl
 unfold Aj5 Aj4
 simp only [Ah, Ak, Ae, Am, Bb]
 simp (disch := first | omega | (simp only [Az, An, Bk, Bc]; omega)) only [Ac6, Ac8, Ata, A9q, Bmc, Al]
 all_goals rfl
theorem Atc (d : Ag) (h : Az d ≤ 4294967296) : Alr d d = some (true, ()) := by
 have hn : Az d = d.2.1.length + d.2.2.2.1.length + d.2.2.2.2.2.2.1.length + d.2.2.2.2.2.2.2.2.1.length + d.2.2.2.2.2.2.2.2.2.2.2.1.length + d.2.2.2.2.2.2.2.2.2.2.2.2.2.2.1.length := rfl
 unfold Alr Alq
 simp (disch := first | omega | (simp only [Az, An, Bk, Bc]; omega)) only [Ah, Ak, Ae, Am, Bb, Cn, beq_self_eq_true, Ap, Al, Bool.not_true, Mu, K0, S9, Ajb, A09]
theorem Ar4 (d : Ag) (k : Int) (h0 : 0 ≤ k) (h1 : k + (E9 d : Nat) ≤ 4611686018427387904) (hl : Az d ≤ 4294967296) : Ab8 d (k, ()) = some ((k + (E9 d : Nat), ()), (d.1, mkL m_B w_B d.2.1 (k), d.2.2.1, mkL m_B w_B d.2.2.2.1 (k + (Ad w_B d.2.1 : Nat)), d.2.2.2.2.1, d.2.2.2.2.2.1, mkL m_I w_I d.2.2.2.2.2.2.1 (k + (Ad w_B d.2.1 : Nat) + (Ad w_B d.2.2.2.1 : Nat)), d.2.2.2.2.2.2.2.1, mkL m_B w_B d.2.2.2.2.2.2.2.2.1 (k + (Ad w_B d.2.1 : Nat) + (Ad w_B d.2.2.2.1 : Nat) + (Ad w_I d.2.2.2.2.2.2.1 : Nat)), d.2.2.2.2.2.2.2.2.2.1, d.2.2.2.2.2.2.2.2.2.2.1, mkL m_I w_I d.2.2.2.2.2.2.2.2.2.2.2.1 (k + (Ad w_B d.2.1 : Nat) + (Ad w_B d.2.2.2.1 : Nat) + (Ad w_I d.2.2.2.2.2.2.1 : Nat) + (Ad w_B d.2.2.2.2.2.2.2.2.1 : Nat)), d.2.2.2.2.2.2.2.2.2.2.2.2.1, d.2.2.2.2.2.2.2.2.2.2.2.2.2.1, mkL m_B w_B d.2.2.2.2.2.2.2.2.2.2.2.2.2.2.1 (k + (Ad w_B d.2.1 : Nat) + (Ad w_B d.2.2.2.1 : Nat) + (Ad w_I d.2.2.2.2.2.2.1 : Nat) + (Ad w_B d.2.2.2.2.2.2.2.2.1 : Nat) + (Ad w_I d.2.2.2.2.2.2.2.2.2.2.2.1 : Nat)), ())) := by
 have hn : Az d = d.2.1.length + d.2.2.2.1.length + d.2.2.2.2.2.2.1.length + d.2.2.2.2.2.2.2.2.1.length + d.2.2.2.2.2.2.2.2.2.2.2.1.length + d.2.2.2.2.2.2.2.2.2.2.2.2.2.2.1.length := rfl
 have hw : E9 d = Ad w_B d.2.1 + Ad w_B d.2.2.2.1 + Ad w_I d.2.2.2.2.2.2.1 + Ad w_B d.2.2.2.2.2.2.2.2.1 + Ad w_I d.2.2.2.2.2.2.2.2.2.2.2.1 + Ad w_B d.2.2.2.2.2.2.2.2.2.2.2.2.2.2.1 := rfl
 have hk : k + ((E9 d : Nat) : Int) = k + (Ad w_B d.2.1 : Nat) + (Ad w_B d.2.2.2.1 : Nat) + (Ad w_I d.2.2.2.2.2.2.1 : Nat) + (Ad w_B d.2.2.2.2.2.2.2.2.1 : Nat) + (Ad w_I d.2.2.2.2.2.2.2.2.2.2.2.1 : Nat) + (Ad w_B d.2.2.2.2.2.2.2.2.2.2.2.2.2.2.1 : Nat) := by simp only [E9]; all_goals omega
 rw [hk]
 unfold Ab8 Ab7
 simp (maxSteps := 4000000) (disch := first | omega | (dsimp only; omega) | (simp only [Bc, Jk, Int.natCast_add]; omega)) only [Ah, Ak, Ae, Am, Bb, Al, Is, Iu, Pw, Ac9, Atb, Jk, Int.natCast_add, ← Int.add_assoc]
theorem Aet (d : Ag) (k : Int) (h0 : 0 ≤ k) (h1 : k + (E9 d : Nat) ≤ 4611686018427387904) (hl : Az d ≤ 4294967296) : Q7 (d.1, mkL m_B w_B d.2.1 (k), d.2.2.1, mkL m_B w_B d.2.2.2.1 (k + (Ad w_B d.2.1 : Nat)), d.2.2.2.2.1, d.2.2.2.2.2.1, mkL m_I w_I d.2.2.2.2.2.2.1 (k + (Ad w_B d.2.1 : Nat) + (Ad w_B d.2.2.2.1 : Nat)), d.2.2.2.2.2.2.2.1, mkL m_B w_B d.2.2.2.2.2.2.2.2.1 (k + (Ad w_B d.2.1 : Nat) + (Ad w_B d.2.2.2.1 : Nat) + (Ad w_I d.2.2.2.2.2.2.1 : Nat)), d.2.2.2.2.2.2.2.2.2.1, d.2.2.2.2.2.2.2.2.2.2.1, mkL m_I w_I d.2.2.2.2.2.2.2.2.2.2.2.1 (k + (Ad w_B d.2.1 : Nat) + (Ad w_B d.2.2.2.1 : Nat) + (Ad w_I d.2.2.2.2.2.2.1 : Nat) + (Ad w_B d.2.2.2.2.2.2.2.2.1 : Nat)), d.2.2.2.2.2.2.2.2.2.2.2.2.1, d.2.2.2.2.2.2.2.2.2.2.2.2.2.1, mkL m_B w_B d.2.2.2.2.2.2.2.2.2.2.2.2.2.2.1 (k + (Ad w_B d.2.1 : Nat) + (Ad w_B d.2.2.2.1 : Nat) + (Ad w_I d.2.2.2.2.2.2.1 : Nat) + (Ad w_B d.2.2.2.2.2.2.2.2.1 : Nat) + (Ad w_I d.2.2.2.2.2.2.2.2.2.2.2.1 : Nat)), ()) (k, ()) = some (k + (E9 d : Nat), ()) := by
 have hn : Az d = d.2.1.length + d.2.2.2.1.length + d.2.2.2.2.2.2.1.length + d.2.2.2.2.2.2.2.2.1.length + d.2.2.2.2.2.2.2.2.2.2.2.1.length + d.2.2.2.2.2.2.2.2.2.2.2.2.2.2.1.length := rfl
 have hw : E9 d = Ad w_B d.2.1 + Ad w_B d.2.2.2.1 + Ad w_I d.2.2.2.2.2.2.1 + Ad w_B d.2.2.2.2.2.2.2.2.1 + Ad w_I d.2.2.2.2.2.2.2.2.2.2.2.1 + Ad w_B d.2.2.2.2.2.2.2.2.2.2.2.2.2.2.1 := rfl
 have hk : k + ((E9 d : Nat) : Int) = k + (Ad w_B d.2.1 : Nat) + (Ad w_B d.2.2.2.1 : Nat) + (Ad w_I d.2.2.2.2.2.2.1 : Nat) + (Ad w_B d.2.2.2.2.2.2.2.2.1 : Nat) + (Ad w_I d.2.2.2.2.2.2.2.2.2.2.2.1 : Nat) + (Ad w_B d.2.2.2.2.2.2.2.2.2.2.2.2.2.2.1 : Nat) := by simp only [E9]; all_goals omega
 rw [hk]
 unfold Q7 Aca
 simp (maxSteps := 4000000) (disch := first | omega | (dsimp only; omega) | (simp only [Bc, Jk, Int.natCast_add]; omega)) only [Ah, Ak, Ae, Am, Bb, Al, Ap, Ot, It, Iv, Px, Ta, Ajc, Jk, Int.natCast_add, ← Int.add_assoc, Bkr]
theorem Bf5 (c0 : Int) (c1 : List YB) (c2 : Int) (c3 : List YB) (c4 : Int) (c5 : Int) (c6 : List YI) (c7 : Int) (c8 : List YB) (c9 : Int) (c10 : Int) (c11 : List YI) (c12 : Bool) (c13 : Int) (c14 : List YB) (k : Int) (h0 : 0 ≤ k) (h1 : k + (E9 (c0, c1, c2, c3, c4, c5, c6, c7, c8, c9, c10, c11, c12, c13, c14, ()) : Nat) ≤ 4611686018427387904) (hl : Az (c0, c1, c2, c3, c4, c5, c6, c7, c8, c9, c10, c11, c12, c13, c14, ()) ≤ 4294967296) : Q7 (c0, mkL m_B w_B c1 (k), c2, mkL m_B w_B c3 (k + (Ad w_B c1 : Nat)), c4, c5, mkL m_I w_I c6 (k + (Ad w_B c1 : Nat) + (Ad w_B c3 : Nat)), c7, mkL m_B w_B c8 (k + (Ad w_B c1 : Nat) + (Ad w_B c3 : Nat) + (Ad w_I c6 : Nat)), c9, c10, mkL m_I w_I c11 (k + (Ad w_B c1 : Nat) + (Ad w_B c3 : Nat) + (Ad w_I c6 : Nat) + (Ad w_B c8 : Nat)), c12, c13, mkL m_B w_B c14 (k + (Ad w_B c1 : Nat) + (Ad w_B c3 : Nat) + (Ad w_I c6 : Nat) + (Ad w_B c8 : Nat) + (Ad w_I c11 : Nat)), ()) (k, ()) = some (k + (E9 (c0, c1, c2, c3, c4, c5, c6, c7, c8, c9, c10, c11, c12, c13, c14, ()) : Nat), ()) := Aet (c0, c1, c2, c3, c4, c5, c6, c7, c8, c9, c10, c11, c12, c13, c14, ()) k h0 h1 hl
theorem Bmq (d : Gn) : Aj1 d = some d := by
 have hn : Iq d = 0 := rfl
 unfold Aj1 Aj0
 simp only [Ah, Ak, Ae, Am, Bb]
 skip
 all_goals rfl
theorem A3b (d : Gn) : Z0 d d = some (true, ()) := by
 have hn : Iq d = 0 := rfl
 unfold Z0 Aln
 simp (disch := first | omega | (simp only [Iq, An, Bk, Bc, Az]; omega)) only [Ah, Ak, Ae, Am, Bb, Cn, beq_self_eq_true, Ap, Al, Bool.not_true, Mu, K0, S9, Ajb, A09, Atc]
theorem Bks (d : B9) : Tp d = some d := by
 have hn : Ir d = 0 := rfl
 unfold Tp Aff
 simp only [Ah, Ak, Ae, Am, Bb]
 skip
 all_goals rfl
theorem A9r (d : B9) : Tw d d = some (true, ()) := by
 have hn : Ir d = 0 := rfl
 unfold Tw Agd
 simp (disch := first | omega | (simp only [Ir, An, Bk, Bc, Az, Iq]; omega)) only [Ah, Ak, Ae, Am, Bb, Cn, beq_self_eq_true, Ap, Al, Bool.not_true, Mu, K0, S9, Ajb, A09, Atc, A3b]
theorem Bih (d : Ab) (n : Int) (h0 : -1 ≤ n) (h1 : n ≤ 1099511627776) (hl : Pv d) : Aar d (n, ()) = some (szR (A9 d) n, ()) := by
 unfold Pv at hl
 obtain ⟨hl0, hl1, hl2, hl3, hl4, hl5, hl6, hl7, hl8, hl9, hl10, hl11, hl12, hl13⟩ := hl
 unfold Aar Aaq
 simp only [Ah, Ak, Ae, Am, Bb]
 simp (disch := first | omega | (dsimp only; omega) | exact Ar3 _ _ | exact Ai9 (by omega) (by omega) | ((repeat' (first | assumption | apply And.intro)); done) | ((first | unfold Pv | unfold Jf | unfold Ai8 | unfold A08 | unfold As7 | unfold Bmn | unfold Bkq); dsimp only; (repeat' (first | assumption | apply And.intro)); done)) only [Ac5, Ac7, As9, A9p, Bmb, Bmo, Al, Aja]
 all_goals try simp (disch := first | omega | (simp only [A9, An, Bk, Bc, Az, Iq, Ir]; omega)) only [A9o]
 all_goals (first | rfl | (refine congrArg (fun t => some (szR t n, ())) ?_; simp only [A9, An, Bk, Bc, Az, Iq, Ir]; omega))
theorem Bii (d : Ab) (h : A9 d ≤ 4294967296) : Jn d = some d := by
 have hn : A9 d = d.2.1.length + d.2.2.2.2.2.1.length + d.2.2.2.2.2.2.2.2.1.length + d.2.2.2.2.2.2.2.2.2.1.length + d.2.2.2.2.2.2.2.2.2.2.2.1.length + d.2.2.2.2.2.2.2.2.2.2.2.2.1.length + d.2.2.2.2.2.2.2.2.2.2.2.2.2.2.2.1.length + d.2.2.2.2.2.2.2.2.2.2.2.2.2.2.2.2.1.length + d.2.2.2.2.2.2.2.2.2.2.2.2.2.2.2.2.2.2.1.length + d.2.2.2.2.2.2.2.2.2.2.2.2.2.2.2.2.2.2.2.2.1.length + d.2.2.2.2.2.2.2.2.2.2.2.2.2.2.2.2.2.2.2.2.2.2.2.1.length + d.2.2.2.2.2.2.2.2.2.2.2.2.2.2.2.2.2.2.2.2.2.2.2.2.2.1.length + d.2.2.2.2.2.2.2.2.2.2.2.2.2.2.2.2.2.2.2.2.2.2.2.2.2.2.2.2.1.length + d.2.2.2.2.2.2.2.2.2.2.2.2.2.2.2.2.2.2.2.2.2.2.2.2.2.2.2.2.2.2.2.1.length := rfl
 unfold Jn Aas
 simp only [Ah, Ak, Ae, Am, Bb]
 simp (disch := first | omega | (simp only [A9, An, Bk, Bc, Az, Iq, Ir]; omega)) only [Ac6, Ac8, Ata, A9q, Bmc, Bmp, Bmq, Bks, Al]
 all_goals rfl
theorem A47 (d : Ab) (h : A9 d ≤ 4294967296) : Jt d d = some (true, ()) := by
 have hn : A9 d = d.2.1.length + d.2.2.2.2.2.1.length + d.2.2.2.2.2.2.2.2.1.length + d.2.2.2.2.2.2.2.2.2.1.length + d.2.2.2.2.2.2.2.2.2.2.2.1.length + d.2.2.2.2.2.2.2.2.2.2.2.2.1.length + d.2.2.2.2.2.2.2.2.2.2.2.2.2.2.2.1.length + d.2.2.2.2.2.2.2.2.2.2.2.2.2.2.2.2.1.length + d.2.2.2.2.2.2.2.2.2.2.2.2.2.2.2.2.2.2.1.length + d.2.2.2.2.2.2.2.2.2.2.2.2.2.2.2.2.2.2.2.2.1.length + d.2.2.2.2.2.2.2.2.2.2.2.2.2.2.2.2.2.2.2.2.2.2.2.1.length + d.2.2.2.2.2.2.2.2.2.2.2.2.2.2.2.2.2.2.2.2.2.2.2.2.2.1.length + d.2.2.2.2.2.2.2.2.2.2.2.2.2.2.2.2.2.2.2.2.2.2.2.2.2.2.2.2.1.length + d.2.2.2.2.2.2.2.2.2.2.2.2.2.2.2.2.2.2.2.2.2.2.2.2.2.2.2.2.2.2.2.1.length := rfl
 unfold Jt Ab5
 simp (disch := first | omega | (simp only [A9, An, Bk, Bc, Az, Iq, Ir]; omega)) only [Ah, Ak, Ae, Am, Bb, Cn, beq_self_eq_true, Ap, Al, Bool.not_true, Mu, K0, S9, Ajb, A09, Atc, A3b, A9r]
theorem Ag3 (d : Ab) (k : Int) (h0 : 0 ≤ k) (h1 : k + (Fc d : Nat) ≤ 4611686018427387904) (hl : A9 d ≤ 4294967296) : Nh d (k, ()) = some ((k + (Fc d : Nat), ()), (d.1, mkL m_B w_B d.2.1 (k), d.2.2.1, d.2.2.2.1, d.2.2.2.2.1, mkL m_B w_B d.2.2.2.2.2.1 (k + (Ad w_B d.2.1 : Nat)), d.2.2.2.2.2.2.1, d.2.2.2.2.2.2.2.1, mkL m_B w_B d.2.2.2.2.2.2.2.2.1 (k + (Ad w_B d.2.1 : Nat) + (Ad w_B d.2.2.2.2.2.1 : Nat)), mkL m_B w_B d.2.2.2.2.2.2.2.2.2.1 (k + (Ad w_B d.2.1 : Nat) + (Ad w_B d.2.2.2.2.2.1 : Nat) + (Ad w_B d.2.2.2.2.2.2.2.2.1 : Nat)), d.2.2.2.2.2.2.2.2.2.2.1, mkL m_B w_B d.2.2.2.2.2.2.2.2.2.2.2.1 (k + (Ad w_B d.2.1 : Nat) + (Ad w_B d.2.2.2.2.2.1 : Nat) + (Ad w_B d.2.2.2.2.2.2.2.2.1 : Nat) + (Ad w_B d.2.2.2.2.2.2.2.2.2.1 : Nat)), mkL m_B w_B d.2.2.2.2.2.2.2.2.2.2.2.2.1 (k + (Ad w_B d.2.1 : Nat) + (Ad w_B d.2.2.2.2.2.1 : Nat) + (Ad w_B d.2.2.2.2.2.2.2.2.1 : Nat) + (Ad w_B d.2.2.2.2.2.2.2.2.2.1 : Nat) + (Ad w_B d.2.2.2.2.2.2.2.2.2.2.2.1 : Nat)), d.2.2.2.2.2.2.2.2.2.2.2.2.2.1, d.2.2.2.2.2.2.2.2.2.2.2.2.2.2.1, mkL m_B w_B d.2.2.2.2.2.2.2.2.2.2.2.2.2.2.2.1 (k + (Ad w_B d.2.1 : Nat) + (Ad w_B d.2.2.2.2.2.1 : Nat) + (Ad w_B d.2.2.2.2.2.2.2.2.1 : Nat) + (Ad w_B d.2.2.2.2.2.2.2.2.2.1 : Nat) + (Ad w_B d.2.2.2.2.2.2.2.2.2.2.2.1 : Nat) + (Ad w_B d.2.2.2.2.2.2.2.2.2.2.2.2.1 : Nat)), mkL m_B w_B d.2.2.2.2.2.2.2.2.2.2.2.2.2.2.2.2.1 (k + (Ad w_B d.2.1 : Nat) + (Ad w_B d.2.2.2.2.2.1 : Nat) + (Ad w_B d.2.2.2.2.2.2.2.2.1 : Nat) + (Ad w_B d.2.2.2.2.2.2.2.2.2.1 : Nat) + (Ad w_B d.2.2.2.2.2.2.2.2.2.2.2.1 : Nat) + (Ad w_B d.2.2.2.2.2.2.2.2.2.2.2.2.1 : Nat) + (Ad w_B d.2.2.2.2.2.2.2.2.2.2.2.2.2.2.2.1 : Nat)), d.2.2.2.2.2.2.2.2.2.2.2.2.2.2.2.2.2.1, mkL m_B w_B d.2.2.2.2.2.2.2.2.2.2.2.2.2.2.2.2.2.2.1 (k + (Ad w_B d.2.1 : Nat) + (Ad w_B d.2.2.2.2.2.1 : Nat) + (Ad w_B d.2.2.2.2.2.2.2.2.1 : Nat) + (Ad w_B d.2.2.2.2.2.2.2.2.2.1 : Nat) + (Ad w_B d.2.2.2.2.2.2.2.2.2.2.2.1 : Nat) + (Ad w_B d.2.2.2.2.2.2.2.2.2.2.2.2.1 : Nat) + (Ad w_B d.2.2.2.2.2.2.2.2.2.2.2.2.2.2.2.1 : Nat) + (Ad w_B d.2.2.2.2.2.2.2.2.2.2.2.2.2.2.2.2.1 : Nat)), d.2.2.2.2.2.2.2.2.2.2.2.2.2.2.2.2.2.2.2.1, mkL m_B w_B d.2.2.2.2.2.2.2.2.2.2.2.2.2.2.2.2.2.2.2.2.1 (k + (Ad w_B d.2.1 : Nat) + (Ad w_B d.2.2.2.2.2.1 : Nat) + (Ad w_B d.2.2.2.2.2.2.2.2.1 : Nat) + (Ad w_B d.2.2.2.2.2.2.2.2.2.1 : Nat) + (Ad w_B d.2.2.2.2.2.2.2.2.2.2.2.1 : Nat) + (Ad w_B d.2.2.2.2.2.2.2.2.2.2.2.2.1 : Nat) + (Ad w_B d.2.2.2.2.2.2.2.2.2.2.2.2.2.2.2.1 : Nat) + (Ad w_B d.2.2.2.2.2.2.2.2.2.2.2.2.2.2.2.2.1 : Nat) + (Ad w_B d.2.2.2.2.2.2.2.2.2.2.2.2.2.2.2.2.2.2.1 : Nat)), d.2.2.2.2.2.2.2.2.2.2.2.2.2.2.2.2.2.2.2.2.2.1, d.2.2.2.2.2.2.2.2.2.2.2.2.2.2.2.2.2.2.2.2.2.2.1, mkL m_I w_I d.2.2.2.2.2.2.2.2.2.2.2.2.2.2.2.2.2.2.2.2.2.2.2.1 (k + (Ad w_B d.2.1 : Nat) + (Ad w_B d.2.2.2.2.2.1 : Nat) + (Ad w_B d.2.2.2.2.2.2.2.2.1 : Nat) + (Ad w_B d.2.2.2.2.2.2.2.2.2.1 : Nat) + (Ad w_B d.2.2.2.2.2.2.2.2.2.2.2.1 : Nat) + (Ad w_B d.2.2.2.2.2.2.2.2.2.2.2.2.1 : Nat) + (Ad w_B d.2.2.2.2.2.2.2.2.2.2.2.2.2.2.2.1 : Nat) + (Ad w_B d.2.2.2.2.2.2.2.2.2.2.2.2.2.2.2.2.1 : Nat) + (Ad w_B d.2.2.2.2.2.2.2.2.2.2.2.2.2.2.2.2.2.2.1 : Nat) + (Ad w_B d.2.2.2.2.2.2.2.2.2.2.2.2.2.2.2.2.2.2.2.2.1 : Nat)), d.2.2.2.2.2.2.2.2.2.2.2.2.2.2.2.2.2.2.2.2.2.2.2.2.1, mkL m_B w_B d.2.2.2.2.2.2.2.2.2.2.2.2.2.2.2.2.2.2.2.2.2.2.2.2.2.1 (k + (Ad w_B d.2.1 : Nat) + (Ad w_B d.2.2.2.2.2.1 : Nat) + (Ad w_B d.2.2.2.2.2.2.2.2.1 : Nat) + (Ad w_B d.2.2.2.2.2.2.2.2.2.1 : Nat) + (Ad w_B d.2.2.2.2.2.2.2.2.2.2.2.1 : Nat) + (Ad w_B d.2.2.2.2.2.2.2.2.2.2.2.2.1 : Nat) + (Ad w_B d.2.2.2.2.2.2.2.2.2.2.2.2.2.2.2.1 : Nat) + (Ad w_B d.2.2.2.2.2.2.2.2.2.2.2.2.2.2.2.2.1 : Nat) + (Ad w_B d.2.2.2.2.2.2.2.2.2.2.2.2.2.2.2.2.2.2.1 : Nat) + (Ad w_B d.2.2.2.2.2.2.2.2.2.2.2.2.2.2.2.2.2.2.2.2.1 : Nat) + (Ad w_I d.2.2.2.2.2.2.2.2.2.2.2.2.2.2.2.2.2.2.2.2.2.2.2.1 : Nat)), d.2.2.2.2.2.2.2.2.2.2.2.2.2.2.2.2.2.2.2.2.2.2.2.2.2.2.1, d.2.2.2.2.2.2.2.2.2.2.2.2.2.2.2.2.2.2.2.2.2.2.2.2.2.2.2.1, mkL m_I w_I d.2.2.2.2.2.2.2.2.2.2.2.2.2.2.2.2.2.2.2.2.2.2.2.2.2.2.2.2.1 (k + (Ad w_B d.2.1 : Nat) + (Ad w_B d.2.2.2.2.2.1 : Nat) + (Ad w_B d.2.2.2.2.2.2.2.2.1 : Nat) + (Ad w_B d.2.2.2.2.2.2.2.2.2.1 : Nat) + (Ad w_B d.2.2.2.2.2.2.2.2.2.2.2.1 : Nat) + (Ad w_B d.2.2.2.2.2.2.2.2.2.2.2.2.1 : Nat) + (Ad w_B d.2.2.2.2.2.2.2.2.2.2.2.2.2.2.2.1 : Nat) + (Ad w_B d.2.2.2.2.2.2.2.2.2.2.2.2.2.2.2.2.1 : Nat) + (Ad w_B d.2.2.2.2.2.2.2.2.2.2.2.2.2.2.2.2.2.2.1 : Nat) + (Ad w_B d.2.2.2.2.2.2.2.2.2.2.2.2.2.2.2.2.2.2.2.2.1 : Nat) + (Ad w_I d.2.2.2.2.2.2.2.2.2.2.2.2.2.2.2.2.2.2.2.2.2.2.2.1 : Nat) + (Ad w_B d.2.2.2.2.2.2.2.2.2.2.2.2.2.2.2.2.2.2.2.2.2.2.2.2.2.1 : Nat)), d.2.2.2.2.2.2.2.2.2.2.2.2.2.2.2.2.2.2.2.2.2.2.2.2.2.2.2.2.2.1, d.2.2.2.2.2.2.2.2.2.2.2.2.2.2.2.2.2.2.2.2.2.2.2.2.2.2.2.2.2.2.1, mkL m_B w_B d.2.2.2.2.2.2.2.2.2.2.2.2.2.2.2.2.2.2.2.2.2.2.2.2.2.2.2.2.2.2.2.1 (k + (Ad w_B d.2.1 : Nat) + (Ad w_B d.2.2.2.2.2.1 : Nat) + (Ad w_B d.2.2.2.2.2.2.2.2.1 : Nat) + (Ad w_B d.2.2.2.2.2.2.2.2.2.1 : Nat) + (Ad w_B d.2.2.2.2.2.2.2.2.2.2.2.1 : Nat) + (Ad w_B d.2.2.2.2.2.2.2.2.2.2.2.2.1 : Nat) + (Ad w_B d.2.2.2.2.2.2.2.2.2.2.2.2.2.2.2.1 : Nat) + (Ad w_B d.2.2.2.2.2.2.2.2.2.2.2.2.2.2.2.2.1 : Nat) + (Ad w_B d.2.2.2.2.2.2.2.2.2.2.2.2.2.2.2.2.2.2.1 : Nat) + (Ad w_B d.2.2.2.2.2.2.2.2.2.2.2.2.2.2.2.2.2.2.2.2.1 : Nat) + (Ad w_I d.2.2.2.2.2.2.2.2.2.2.2.2.2.2.2.2.2.2.2.2.2.2.2.1 : Nat) + (Ad w_B d.2.2.2.2.2.2.2.2.2.2.2.2.2.2.2.2.2.2.2.2.2.2.2.2.2.1 : Nat) + (Ad w_I d.2.2.2.2.2.2.2.2.2.2.2.2.2.2.2.2.2.2.2.2.2.2.2.2.2.2.2.2.1 : Nat)), d.2.2.2.2.2.2.2.2.2.2.2.2.2.2.2.2.2.2.2.2.2.2.2.2.2.2.2.2.2.2.2.2.1, d.2.2.2.2.2.2.2.2.2.2.2.2.2.2.2.2.2.2.2.2.2.2.2.2.2.2.2.2.2.2.2.2.2.1, d.2.2.2.2.2.2.2.2.2.2.2.2.2.2.2.2.2.2.2.2.2.2.2.2.2.2.2.2.2.2.2.2.2.2.1, d.2.2.2.2.2.2.2.2.2.2.2.2.2.2.2.2.2.2.2.2.2.2.2.2.2.2.2.2.2.2.2.2.2.2.2.1, d.2.2.2.2.2.2.2.2.2.2.2.2.2.2.2.2.2.2.2.2.2.2.2.2.2.2.2.2.2.2.2.2.2.2.2.2.1, d.2.2.2.2.2.2.2.2.2.2.2.2.2.2.2.2.2.2.2.2.2.2.2.2.2.2.2.2.2.2.2.2.2.2.2.2.2.1, d.2.2.2.2.2.2.2.2.2.2.2.2.2.2.2.2.2.2.2.2.2.2.2.2.2.2.2.2.2.2.2.2.2.2.2.2.2.2.1, d.2.2.2.2.2.2.2.2.2.2.2.2.2.2.2.2.2.2.2.2.2.2.2.2.2.2.2.2.2.2.2.2.2.2.2.2.2.2.2.1, d.2.2.2.2.2.2.2.2.2.2.2.2.2.2.2.2.2.2.2.2.2.2.2.2.2.2.2.2.2.2.2.2.2.2.2.2.2.2.2.2.1, ())) := by
 have hn : A9 d = d.2.1.length + d.2.2.2.2.2.1.length + d.2.2.2.2.2.2.2.2.1.length + d.2.2.2.2.2.2.2.2.2.1.length + d.2.2.2.2.2.2.2.2.2.2.2.1.length + d.2.2.2.2.2.2.2.2.2.2.2.2.1.length + d.2.2.2.2.2.2.2.2.2.2.2.2.2.2.2.1.length + d.2.2.2.2.2.2.2.2.2.2.2.2.2.2.2.2.1.length + d.2.2.2.2.2.2.2.2.2.2.2.2.2.2.2.2.2.2.1.length + d.2.2.2.2.2.2.2.2.2.2.2.2.2.2.2.2.2.2.2.2.1.length + d.2.2.2.2.2.2.2.2.2.2.2.2.2.2.2.2.2.2.2.2.2.2.2.1.length + d.2.2.2.2.2.2.2.2.2.2.2.2.2.2.2.2.2.2.2.2.2.2.2.2.2.1.length + d.2.2.2.2.2.2.2.2.2.2.2.2.2.2.2.2.2.2.2.2.2.2.2.2.2.2.2.2.1.length + d.2.2.2.2.2.2.2.2.2.2.2.2.2.2.2.2.2.2.2.2.2.2.2.2.2.2.2.2.2.2.2.1.length := rfl
 have hw : Fc d = Ad w_B d.2.1 + Ad w_B d.2.2.2.2.2.1 + Ad w_B d.2.2.2.2.2.2.2.2.1 + Ad w_B d.2.2.2.2.2.2.2.2.2.1 + Ad w_B d.2.2.2.2.2.2.2.2.2.2.2.1 + Ad w_B d.2.2.2.2.2.2.2.2.2.2.2.2.1 + Ad w_B d.2.2.2.2.2.2.2.2.2.2.2.2.2.2.2.1 + Ad w_B d.2.2.2.2.2.2.2.2.2.2.2.2.2.2.2.2.1 + Ad w_B d.2.2.2.2.2.2.2.2.2.2.2.2.2.2.2.2.2.2.1 + Ad w_B d.2.2.2.2.2.2.2.2.2.2.2.2.2.2.2.2.2.2.2.2.1 + Ad w_I d.2.2.2.2.2.2.2.2.2.2.2.2.2.2.2.2.2.2.2.2.2.2.2.1 + Ad w_B d.2.2.2.2.2.2.2.2.2.2.2.2.2.2.2.2.2.2.2.2.2.2.2.2.2.1 + Ad w_I d.2.2.2.2.2.2.2.2.2.2.2.2.2.2.2.2.2.2.2.2.2.2.2.2.2.2.2.2.1 + Ad w_B d.2.2.2.2.2.2.2.2.2.2.2.2.2.2.2.2.2.2.2.2.2.2.2.2.2.2.2.2.2.2.2.1 := rfl
 have hk : k + ((Fc d : Nat) : Int) = k + (Ad w_B d.2.1 : Nat) + (Ad w_B d.2.2.2.2.2.1 : Nat) + (Ad w_B d.2.2.2.2.2.2.2.2.1 : Nat) + (Ad w_B d.2.2.2.2.2.2.2.2.2.1 : Nat) + (Ad w_B d.2.2.2.2.2.2.2.2.2.2.2.1 : Nat) + (Ad w_B d.2.2.2.2.2.2.2.2.2.2.2.2.1 : Nat) + (Ad w_B d.2.2.2.2.2.2.2.2.2.2.2.2.2.2.2.1 : Nat) + (Ad w_B d.2.2.2.2.2.2.2.2.2.2.2.2.2.2.2.2.1 : Nat) + (Ad w_B d.2.2.2.2.2.2.2.2.2.2.2.2.2.2.2.2.2.2.1 : Nat) + (Ad w_B d.2.2.2.2.2.2.2.2.2.2.2.2.2.2.2.2.2.2.2.2.1 : Nat) + (Ad w_I d.2.2.2.2.2.2.2.2.2.2.2.2.2.2.2.2.2.2.2.2.2.2.2.1 : Nat) + (Ad w_B d.2.2.2.2.2.2.2.2.2.2.2.2.2.2.2.2.2.2.2.2.2.2.2.2.2.1 : Nat) + (Ad w_I d.2.2.2.2.2.2.2.2.2.2.2.2.2.2.2.2.2.2.2.2.2.2.2.2.2.2.2.2.1 : Nat) + (Ad w_B d.2.2.2.2.2.2.2.2.2.2.2.2.2.2.2.2.2.2.2.2.2.2.2.2.2.2.2.2.2.2.2.1 : Nat) := by simp only [Fc]; all_goals omega
 rw [hk]
 unfold Nh Sm
 simp (maxSteps := 4000000) (disch := first | omega | (dsimp only; omega) | (simp only [An, Do, Az, E9, Int.natCast_add]; omega)) only [Ah, Ak, Ae, Am, Bb, Al, Is, Iu, Pw, Ac9, Atb, Ar4, Do, E9, Int.natCast_add, ← Int.add_assoc]
theorem Ag4 (d : Ab) (k : Int) (h0 : 0 ≤ k) (h1 : k + (Fc d : Nat) ≤ 4611686018427387904) (hl : A9 d ≤ 4294967296) : Ni (d.1, mkL m_B w_B d.2.1 (k), d.2.2.1, d.2.2.2.1, d.2.2.2.2.1, mkL m_B w_B d.2.2.2.2.2.1 (k + (Ad w_B d.2.1 : Nat)), d.2.2.2.2.2.2.1, d.2.2.2.2.2.2.2.1, mkL m_B w_B d.2.2.2.2.2.2.2.2.1 (k + (Ad w_B d.2.1 : Nat) + (Ad w_B d.2.2.2.2.2.1 : Nat)), mkL m_B w_B d.2.2.2.2.2.2.2.2.2.1 (k + (Ad w_B d.2.1 : Nat) + (Ad w_B d.2.2.2.2.2.1 : Nat) + (Ad w_B d.2.2.2.2.2.2.2.2.1 : Nat)), d.2.2.2.2.2.2.2.2.2.2.1, mkL m_B w_B d.2.2.2.2.2.2.2.2.2.2.2.1 (k + (Ad w_B d.2.1 : Nat) + (Ad w_B d.2.2.2.2.2.1 : Nat) + (Ad w_B d.2.2.2.2.2.2.2.2.1 : Nat) + (Ad w_B d.2.2.2.2.2.2.2.2.2.1 : Nat)), mkL m_B w_B d.2.2.2.2.2.2.2.2.2.2.2.2.1 (k + (Ad w_B d.2.1 : Nat) + (Ad w_B d.2.2.2.2.2.1 : Nat) + (Ad w_B d.2.2.2.2.2.2.2.2.1 : Nat) + (Ad w_B d.2.2.2.2.2.2.2.2.2.1 : Nat) + (Ad w_B d.2.2.2.2.2.2.2.2.2.2.2.1 : Nat)), d.2.2.2.2.2.2.2.2.2.2.2.2.2.1, d.2.2.2.2.2.2.2.2.2.2.2.2.2.2.1, mkL m_B w_B d.2.2.2.2.2.2.2.2.2.2.2.2.2.2.2.1 (k + (Ad w_B d.2.1 : Nat) + (Ad w_B d.2.2.2.2.2.1 : Nat) + (Ad w_B d.2.2.2.2.2.2.2.2.1 : Nat) + (Ad w_B d.2.2.2.2.2.2.2.2.2.1 : Nat) + (Ad w_B d.2.2.2.2.2.2.2.2.2.2.2.1 : Nat) + (Ad w_B d.2.2.2.2.2.2.2.2.2.2.2.2.1 : Nat)), mkL m_B w_B d.2.2.2.2.2.2.2.2.2.2.2.2.2.2.2.2.1 (k + (Ad w_B d.2.1 : Nat) + (Ad w_B d.2.2.2.2.2.1 : Nat) + (Ad w_B d.2.2.2.2.2.2.2.2.1 : Nat) + (Ad w_B d.2.2.2.2.2.2.2.2.2.1 : Nat) + (Ad w_B d.2.2.2.2.2.2.2.2.2.2.2.1 : Nat) + (Ad w_B d.2.2.2.2.2.2.2.2.2.2.2.2.1 : Nat) + (Ad w_B d.2.2.2.2.2.2.2.2.2.2.2.2.2.2.2.1 : Nat)), d.2.2.2.2.2.2.2.2.2.2.2.2.2.2.2.2.2.1, mkL m_B w_B d.2.2.2.2.2.2.2.2.2.2.2.2.2.2.2.2.2.2.1 (k + (Ad w_B d.2.1 : Nat) + (Ad w_B d.2.2.2.2.2.1 : Nat) + (Ad w_B d.2.2.2.2.2.2.2.2.1 : Nat) + (Ad w_B d.2.2.2.2.2.2.2.2.2.1 : Nat) + (Ad w_B d.2.2.2.2.2.2.2.2.2.2.2.1 : Nat) + (Ad w_B d.2.2.2.2.2.2.2.2.2.2.2.2.1 : Nat) + (Ad w_B d.2.2.2.2.2.2.2.2.2.2.2.2.2.2.2.1 : Nat) + (Ad w_B d.2.2.2.2.2.2.2.2.2.2.2.2.2.2.2.2.1 : Nat)), d.2.2.2.2.2.2.2.2.2.2.2.2.2.2.2.2.2.2.2.1, mkL m_B w_B d.2.2.2.2.2.2.2.2.2.2.2.2.2.2.2.2.2.2.2.2.1 (k + (Ad w_B d.2.1 : Nat) + (Ad w_B d.2.2.2.2.2.1 : Nat) + (Ad w_B d.2.2.2.2.2.2.2.2.1 : Nat) + (Ad w_B d.2.2.2.2.2.2.2.2.2.1 : Nat) + (Ad w_B d.2.2.2.2.2.2.2.2.2.2.2.1 : Nat) + (Ad w_B d.2.2.2.2.2.2.2.2.2.2.2.2.1 : Nat) + (Ad w_B d.2.2.2.2.2.2.2.2.2.2.2.2.2.2.2.1 : Nat) + (Ad w_B d.2.2.2.2.2.2.2.2.2.2.2.2.2.2.2.2.1 : Nat) + (Ad w_B d.2.2.2.2.2.2.2.2.2.2.2.2.2.2.2.2.2.2.1 : Nat)), d.2.2.2.2.2.2.2.2.2.2.2.2.2.2.2.2.2.2.2.2.2.1, d.2.2.2.2.2.2.2.2.2.2.2.2.2.2.2.2.2.2.2.2.2.2.1, mkL m_I w_I d.2.2.2.2.2.2.2.2.2.2.2.2.2.2.2.2.2.2.2.2.2.2.2.1 (k + (Ad w_B d.2.1 : Nat) + (Ad w_B d.2.2.2.2.2.1 : Nat) + (Ad w_B d.2.2.2.2.2.2.2.2.1 : Nat) + (Ad w_B d.2.2.2.2.2.2.2.2.2.1 : Nat) + (Ad w_B d.2.2.2.2.2.2.2.2.2.2.2.1 : Nat) + (Ad w_B d.2.2.2.2.2.2.2.2.2.2.2.2.1 : Nat) + (Ad w_B d.2.2.2.2.2.2.2.2.2.2.2.2.2.2.2.1 : Nat) + (Ad w_B d.2.2.2.2.2.2.2.2.2.2.2.2.2.2.2.2.1 : Nat) + (Ad w_B d.2.2.2.2.2.2.2.2.2.2.2.2.2.2.2.2.2.2.1 : Nat) + (Ad w_B d.2.2.2.2.2.2.2.2.2.2.2.2.2.2.2.2.2.2.2.2.1 : Nat)), d.2.2.2.2.2.2.2.2.2.2.2.2.2.2.2.2.2.2.2.2.2.2.2.2.1, mkL m_B w_B d.2.2.2.2.2.2.2.2.2.2.2.2.2.2.2.2.2.2.2.2.2.2.2.2.2.1 (k + (Ad w_B d.2.1 : Nat) + (Ad w_B d.2.2.2.2.2.1 : Nat) + (Ad w_B d.2.2.2.2.2.2.2.2.1 : Nat) + (Ad w_B d.2.2.2.2.2.2.2.2.2.1 : Nat) + (Ad w_B d.2.2.2.2.2.2.2.2.2.2.2.1 : Nat) + (Ad w_B d.2.2.2.2.2.2.2.2.2.2.2.2.1 : Nat) + (Ad w_B d.2.2.2.2.2.2.2.2.2.2.2.2.2.2.2.1 : Nat) + (Ad w_B d.2.2.2.2.2.2.2.2.2.2.2.2.2.2.2.2.1 : Nat) + (Ad w_B d.2.2.2.2.2.2.2.2.2.2.2.2.2.2.2.2.2.2.1 : Nat) + (Ad w_B d.2.2.2.2.2.2.2.2.2.2.2.2.2.2.2.2.2.2.2.2.1 : Nat) + (Ad w_I d.2.2.2.2.2.2.2.2.2.2.2.2.2.2.2.2.2.2.2.2.2.2.2.1 : Nat)), d.2.2.2.2.2.2.2.2.2.2.2.2.2.2.2.2.2.2.2.2.2.2.2.2.2.2.1, d.2.2.2.2.2.2.2.2.2.2.2.2.2.2.2.2.2.2.2.2.2.2.2.2.2.2.2.1, mkL m_I w_I d.2.2.2.2.2.2.2.2.2.2.2.2.2.2.2.2.2.2.2.2.2.2.2.2.2.2.2.2.1 (k + (Ad w_B d.2.1 : Nat) + (Ad w_B d.2.2.2.2.2.1 : Nat) + (Ad w_B d.2.2.2.2.2.2.2.2.1 : Nat) + (Ad w_B d.2.2.2.2.2.2.2.2.2.1 : Nat) + (Ad w_B d.2.2.2.2.2.2.2.2.2.2.2.1 : Nat) + (Ad w_B d.2.2.2.2.2.2.2.2.2.2.2.2.1 : Nat) + (Ad w_B d.2.2.2.2.2.2.2.2.2.2.2.2.2.2.2.1 : Nat) + (Ad w_B d.2.2.2.2.2.2.2.2.2.2.2.2.2.2.2.2.1 : Nat) + (Ad w_B d.2.2.2.2.2.2.2.2.2.2.2.2.2.2.2.2.2.2.1 : Nat) + (Ad w_B d.2.2.2.2.2.2.2.2.2.2.2.2.2.2.2.2.2.2.2.2.1 : Nat) + (Ad w_I d.2.2.2.2.2.2.2.2.2.2.2.2.2.2.2.2.2.2.2.2.2.2.2.1 : Nat) + (Ad w_B d.2.2.2.2.2.2.2.2.2.2.2.2.2.2.2.2.2.2.2.2.2.2.2.2.2.1 : Nat)), d.2.2.2.2.2.2.2.2.2.2.2.2.2.2.2.2.2.2.2.2.2.2.2.2.2.2.2.2.2.1, d.2.2.2.2.2.2.2.2.2.2.2.2.2.2.2.2.2.2.2.2.2.2.2.2.2.2.2.2.2.2.1, mkL m_B w_B d.2.2.2.2.2.2.2.2.2.2.2.2.2.2.2.2.2.2.2.2.2.2.2.2.2.2.2.2.2.2.2.1 (k + (Ad w_B d.2.1 : Nat) + (Ad w_B d.2.2.2.2.2.1 : Nat) + (Ad w_B d.2.2.2.2.2.2.2.2.1 : Nat) + (Ad w_B d.2.2.2.2.2.2.2.2.2.1 : Nat) + (Ad w_B d.2.2.2.2.2.2.2.2.2.2.2.1 : Nat) + (Ad w_B d.2.2.2.2.2.2.2.2.2.2.2.2.1 : Nat) + (Ad w_B d.2.2.2.2.2.2.2.2.2.2.2.2.2.2.2.1 : Nat) + (Ad w_B d.2.2.2.2.2.2.2.2.2.2.2.2.2.2.2.2.1 : Nat) + (Ad w_B d.2.2.2.2.2.2.2.2.2.2.2.2.2.2.2.2.2.2.1 : Nat) + (Ad w_B d.2.2.2.2.2.2.2.2.2.2.2.2.2.2.2.2.2.2.2.2.1 : Nat) + (Ad w_I d.2.2.2.2.2.2.2.2.2.2.2.2.2.2.2.2.2.2.2.2.2.2.2.1 : Nat) + (Ad w_B d.2.2.2.2.2.2.2.2.2.2.2.2.2.2.2.2.2.2.2.2.2.2.2.2.2.1 : Nat) + (Ad w_I d.2.2.2.2.2.2.2.2.2.2.2.2.2.2.2.2.2.2.2.2.2.2.2.2.2.2.2.2.1 : Nat)), d.2.2.2.2.2.2.2.2.2.2.2.2.2.2.2.2.2.2.2.2.2.2.2.2.2.2.2.2.2.2.2.2.1, d.2.2.2.2.2.2.2.2.2.2.2.2.2.2.2.2.2.2.2.2.2.2.2.2.2.2.2.2.2.2.2.2.2.1, d.2.2.2.2.2.2.2.2.2.2.2.2.2.2.2.2.2.2.2.2.2.2.2.2.2.2.2.2.2.2.2.2.2.2.1, d.2.2.2.2.2.2.2.2.2.2.2.2.2.2.2.2.2.2.2.2.2.2.2.2.2.2.2.2.2.2.2.2.2.2.2.1, d.2.2.2.2.2.2.2.2.2.2.2.2.2.2.2.2.2.2.2.2.2.2.2.2.2.2.2.2.2.2.2.2.2.2.2.2.1, d.2.2.2.2.2.2.2.2.2.2.2.2.2.2.2.2.2.2.2.2.2.2.2.2.2.2.2.2.2.2.2.2.2.2.2.2.2.1, d.2.2.2.2.2.2.2.2.2.2.2.2.2.2.2.2.2.2.2.2.2.2.2.2.2.2.2.2.2.2.2.2.2.2.2.2.2.2.1, d.2.2.2.2.2.2.2.2.2.2.2.2.2.2.2.2.2.2.2.2.2.2.2.2.2.2.2.2.2.2.2.2.2.2.2.2.2.2.2.1, d.2.2.2.2.2.2.2.2.2.2.2.2.2.2.2.2.2.2.2.2.2.2.2.2.2.2.2.2.2.2.2.2.2.2.2.2.2.2.2.2.1, ()) (k, ()) = some (k + (Fc d : Nat), ()) := by
 have hn : A9 d = d.2.1.length + d.2.2.2.2.2.1.length + d.2.2.2.2.2.2.2.2.1.length + d.2.2.2.2.2.2.2.2.2.1.length + d.2.2.2.2.2.2.2.2.2.2.2.1.length + d.2.2.2.2.2.2.2.2.2.2.2.2.1.length + d.2.2.2.2.2.2.2.2.2.2.2.2.2.2.2.1.length + d.2.2.2.2.2.2.2.2.2.2.2.2.2.2.2.2.1.length + d.2.2.2.2.2.2.2.2.2.2.2.2.2.2.2.2.2.2.1.length + d.2.2.2.2.2.2.2.2.2.2.2.2.2.2.2.2.2.2.2.2.1.length + d.2.2.2.2.2.2.2.2.2.2.2.2.2.2.2.2.2.2.2.2.2.2.2.1.length + d.2.2.2.2.2.2.2.2.2.2.2.2.2.2.2.2.2.2.2.2.2.2.2.2.2.1.length + d.2.2.2.2.2.2.2.2.2.2.2.2.2.2.2.2.2.2.2.2.2.2.2.2.2.2.2.2.1.length + d.2.2.2.2.2.2.2.2.2.2.2.2.2.2.2.2.2.2.2.2.2.2.2.2.2.2.2.2.2.2.2.1.length := rfl
 have hw : Fc d = Ad w_B d.2.1 + Ad w_B d.2.2.2.2.2.1 + Ad w_B d.2.2.2.2.2.2.2.2.1 + Ad w_B d.2.2.2.2.2.2.2.2.2.1 + Ad w_B d.2.2.2.2.2.2.2.2.2.2.2.1 + Ad w_B d.2.2.2.2.2.2.2.2.2.2.2.2.1 + Ad w_B d.2.2.2.2.2.2.2.2.2.2.2.2.2.2.2.1 + Ad w_B d.2.2.2.2.2.2.2.2.2.2.2.2.2.2.2.2.1 + Ad w_B d.2.2.2.2.2.2.2.2.2.2.2.2.2.2.2.2.2.2.1 + Ad w_B d.2.2.2.2.2.2.2.2.2.2.2.2.2.2.2.2.2.2.2.2.1 + Ad w_I d.2.2.2.2.2.2.2.2.2.2.2.2.2.2.2.2.2.2.2.2.2.2.2.1 + Ad w_B d.2.2.2.2.2.2.2.2.2.2.2.2.2.2.2.2.2.2.2.2.2.2.2.2.2.1 + Ad w_I d.2.2.2.2.2.2.2.2.2.2.2.2.2.2.2.2.2.2.2.2.2.2.2.2.2.2.2.2.1 + Ad w_B d.2.2.2.2.2.2.2.2.2.2.2.2.2.2.2.2.2.2.2.2.2.2.2.2.2.2.2.2.2.2.2.1 := rfl
 have hk : k + ((Fc d : Nat) : Int) = k + (Ad w_B d.2.1 : Nat) + (Ad w_B d.2.2.2.2.2.1 : Nat) + (Ad w_B d.2.2.2.2.2.2.2.2.1 : Nat) + (Ad w_B d.2.2.2.2.2.2.2.2.2.1 : Nat) + (Ad w_B d.2.2.2.2.2.2.2.2.2.2.2.1 : Nat) + (Ad w_B d.2.2.2.2.2.2.2.2.2.2.2.2.1 : Nat) + (Ad w_B d.2.2.2.2.2.2.2.2.2.2.2.2.2.2.2.1 : Nat) + (Ad w_B d.2.2.2.2.2.2.2.2.2.2.2.2.2.2.2.2.1 : Nat) + (Ad w_B d.2.2.2.2.2.2.2.2.2.2.2.2.2.2.2.2.2.2.1 : Nat) + (Ad w_B d.2.2.2.2.2.2.2.2.2.2.2.2.2.2.2.2.2.2.2.2.1 : Nat) + (Ad w_I d.2.2.2.2.2.2.2.2.2.2.2.2.2.2.2.2.2.2.2.2.2.2.2.1 : Nat) + (Ad w_B d.2.2.2.2.2.2.2.2.2.2.2.2.2.2.2.2.2.2.2.2.2.2.2.2.2.1 : Nat) + (Ad w_I d.2.2.2.2.2.2.2.2.2.2.2.2.2.2.2.2.2.2.2.2.2.2.2.2.2.2.2.2.1 : Nat) + (Ad w_B d.2.2.2.2.2.2.2.2.2.2.2.2.2.2.2.2.2.2.2.2.2.2.2.2.2.2.2.2.2.2.2.1 : Nat) := by simp only [Fc]; all_goals omega
 rw [hk]
 unfold Ni Sp
 simp (maxSteps := 4000000) (disch := first | omega | (dsimp only; omega) | (simp only [An, Do, Az, E9, Int.natCast_add]; omega)) only [Ah, Ak, Ae, Am, Bb, Al, Ap, Ot, It, Iv, Px, Ta, Ajc, Aet, Do, E9, Int.natCast_add, ← Int.add_assoc, Bc8, Bf5]
theorem A48 (d : List Aa × Unit) (h : d.1.length + Ad An d.1 ≤ 4294967296) : Mj d d = some (true, ()) := by
 have e := As8 (B := G6) (l := d.1) (fun i x hx hi => by
  unfold G6
  simp only [Ah, Ak, Ae, Am, Bb, El hi, Ay, Ch hx, Al, Cn, Ap]
  have hx2 := Bd5 (f := An) hx
  rw [K0 x (by first | omega | (simp only [An] at *; omega)), Al]
  try simp only [Bool.not_true, Ap]
  rw [w64 (by omega)]) (by
  unfold G6
  simp only [Ah, Ak, Ae, Am, Bb, Gk, Ap])
 unfold Mj Mi
 simp only [Ah, Ak, Ae, Am, Bb, Cn, Ap]
 rw [e]
 rfl
theorem Au9 (d : List Aa × Unit) (k : Int) (h0 : 0 ≤ k) (h1 : k + (Ad Dk d.1 : Nat) ≤ 4611686018427387904) : So d (k, ()) = some ((k + (Ad Dk d.1 : Nat), ()), (mkL Ai7 Dk d.1 k, ())) := by
 have hl := Fv (w := Dk) (fun x => by simp only [Dk]; omega) d.1
 have e := Aer (B := Fi) Ai7 Dk (l := d.1) (fun t k i x ht hx hlen h0 h1 hi => by
  have hit : i < t.length := by omega
  have hw : Dk x = 1 + 1 + Ad w_B x.2.2.1 + Ad w_B x.2.2.2.1 + 1 + Ad w_B x.2.2.2.2.2.1 + Ad w_B x.2.2.2.2.2.2.1 + 1 + 1 + Ad w_B x.2.2.2.2.2.2.2.2.2.1 + Ad w_B x.2.2.2.2.2.2.2.2.2.2.1 := rfl
  have hk : k + ((Dk x : Nat) : Int) = k + 1 + 1 + (Ad w_B x.2.2.1 : Nat) + (Ad w_B x.2.2.2.1 : Nat) + 1 + (Ad w_B x.2.2.2.2.2.1 : Nat) + (Ad w_B x.2.2.2.2.2.2.1 : Nat) + 1 + 1 + (Ad w_B x.2.2.2.2.2.2.2.2.2.1 : Nat) + (Ad w_B x.2.2.2.2.2.2.2.2.2.2.1 : Nat) := by simp only [Dk]; all_goals omega
  rw [hk]
  unfold Fi
  simp (maxSteps := 4000000) only [Ah, Ak, Ae, Am, Bb, El hit, Ay, Ch ht, Al, Int.toNat_natCast]
  simp (maxSteps := 4000000) (disch := first | omega | (dsimp only; omega) | (simp only [List.length_set]; omega)) only [w64, As6, List.set_set, Al, Int.toNat_natCast, A8, Ao, Is, Iu, Pw, Ac9, Atb, Ar4, Ag3]
  rfl) (fun t k hlen => by
  unfold Fi
  exact (Ah _ _ _).trans ((Cg (by simp [hlen])).trans rfl)) h0 h1
 unfold So Ju
 simp only [Ah, Ak, Ae, Am, Bb]
 rw [e]
 rfl
theorem Ava (d : List Aa) (k : Int) (h0 : 0 ≤ k) (h1 : k + (Ad Dk d : Nat) ≤ 4611686018427387904) : Nj (mkL Ai7 Dk d k, ()) (k, ()) = some (k + (Ad Dk d : Nat), ()) := by
 have hl := Fv (w := Dk) (fun x => by simp only [Dk]; omega) d
 have e := Aes (B := Fj) Ai7 Dk (l := d) (k := k) (fun k i x ht hx h0 h1 hi => by
  have hk : k + ((Dk x : Nat) : Int) = k + 1 + 1 + (Ad w_B x.2.2.1 : Nat) + (Ad w_B x.2.2.2.1 : Nat) + 1 + (Ad w_B x.2.2.2.2.2.1 : Nat) + (Ad w_B x.2.2.2.2.2.2.1 : Nat) + 1 + 1 + (Ad w_B x.2.2.2.2.2.2.2.2.2.1 : Nat) + (Ad w_B x.2.2.2.2.2.2.2.2.2.2.1 : Nat) := by simp only [Dk]; all_goals omega
  have hw : Dk x = 1 + 1 + Ad w_B x.2.2.1 + Ad w_B x.2.2.2.1 + 1 + Ad w_B x.2.2.2.2.2.1 + Ad w_B x.2.2.2.2.2.2.1 + 1 + 1 + Ad w_B x.2.2.2.2.2.2.2.2.2.1 + Ad w_B x.2.2.2.2.2.2.2.2.2.2.1 := rfl
  rw [hk]
  unfold Fj
  simp only [Ah, Ak, Ae, Am, Bb, Ig, El hi, Ay, Ch ht, Al, Ai7, Cn, Ap]
  simp (maxSteps := 4000000) (disch := first | omega | (dsimp only; omega)) only [w64, Al, Cn, beq_self_eq_true, Bool.not_true, Ap, Ot, A8, Ao, It, Iv, Px, Ta, Ajc, Aet, Ag4]) (fun k => by
  unfold Fj
  simp only [Ah, Ak, Ae, Am, Bb, Ig, Gk, Ap]) h0 h1
 unfold Nj Jv
 simp only [Ah, Ak, Ae, Am, Bb]
 rw [e]
 rfl
theorem Bmr (d : Af) (h : Ci d ≤ 4294967296) : Alt d d = some (true, ()) := by
 have hn : Ci d = d.2.2.2.1.length + d.2.2.2.2.1.length + d.2.2.2.2.2.2.2.1.length + d.2.2.2.2.2.2.2.2.1.length := rfl
 unfold Alt Als
 simp (disch := first | omega | (simp only [Ci, An, Bk, Bc, Az, Iq, Ir, A9]; omega)) only [Ah, Ak, Ae, Am, Bb, Cn, beq_self_eq_true, Ap, Al, Bool.not_true, Mu, K0, S9, Ajb, A09, Atc, A3b, A9r, A47, A48]
theorem Bkt (d : List Af × Unit) (h : d.1.length + Ad Ci d.1 ≤ 4294967296) : Oi d d = some (true, ()) := by
 have e := As8 (B := H7) (l := d.1) (fun i x hx hi => by
  unfold H7
  simp only [Ah, Ak, Ae, Am, Bb, El hi, Ay, Ch hx, Al, Cn, Ap]
  have hx2 := Bd5 (f := Ci) hx
  rw [Bmr x (by first | omega | (simp only [Ci] at *; omega)), Al]
  try simp only [Bool.not_true, Ap]
  rw [w64 (by omega)]) (by
  unfold H7
  simp only [Ah, Ak, Ae, Am, Bb, Gk, Ap])
 unfold Oi Oh
 simp only [Ah, Ak, Ae, Am, Bb, Cn, Ap]
 rw [e]
 rfl
theorem Bf6 (d : List Af × Unit) (k : Int) (h0 : 0 ≤ k) (h1 : k + (Ad Ea d.1 : Nat) ≤ 4611686018427387904) : Vf d (k, ()) = some ((k + (Ad Ea d.1 : Nat), ()), (mkL Ar2 Ea d.1 k, ())) := by
 have hl := Fv (w := Ea) (fun x => by simp only [Ea]; omega) d.1
 have e := Aer (B := F7) Ar2 Ea (l := d.1) (fun t k i x ht hx hlen h0 h1 hi => by
  have hit : i < t.length := by omega
  have hw : Ea x = 1 + 1 + 1 + Ad w_B x.2.2.2.1 + Ad w_B x.2.2.2.2.1 + 1 + 1 + Ad w_B x.2.2.2.2.2.2.2.1 + Ad w_B x.2.2.2.2.2.2.2.2.1 + 1 + 1 + 1 := rfl
  have hk : k + ((Ea x : Nat) : Int) = k + 1 + 1 + 1 + (Ad w_B x.2.2.2.1 : Nat) + (Ad w_B x.2.2.2.2.1 : Nat) + 1 + 1 + (Ad w_B x.2.2.2.2.2.2.2.1 : Nat) + (Ad w_B x.2.2.2.2.2.2.2.2.1 : Nat) + 1 + 1 + 1 := by simp only [Ea]; all_goals omega
  rw [hk]
  unfold F7
  simp (maxSteps := 4000000) only [Ah, Ak, Ae, Am, Bb, El hit, Ay, Ch ht, Al, Int.toNat_natCast]
  simp (maxSteps := 4000000) (disch := first | omega | (dsimp only; omega) | (simp only [List.length_set]; omega)) only [w64, As6, List.set_set, Al, Int.toNat_natCast, A8, Ao, Is, Iu, Pw, Ac9, Atb, Ar4, Ag3, Au9]
  rfl) (fun t k hlen => by
  unfold F7
  exact (Ah _ _ _).trans ((Cg (by simp [hlen])).trans rfl)) h0 h1
 unfold Vf Lc
 simp only [Ah, Ak, Ae, Am, Bb]
 rw [e]
 rfl
theorem Bf7 (d : List Af) (k : Int) (h0 : 0 ≤ k) (h1 : k + (Ad Ea d : Nat) ≤ 4611686018427387904) : Pc (mkL Ar2 Ea d k, ()) (k, ()) = some (k + (Ad Ea d : Nat), ()) := by
 have hl := Fv (w := Ea) (fun x => by simp only [Ea]; omega) d
 have e := Aes (B := F9) Ar2 Ea (l := d) (k := k) (fun k i x ht hx h0 h1 hi => by
  have hk : k + ((Ea x : Nat) : Int) = k + 1 + 1 + 1 + (Ad w_B x.2.2.2.1 : Nat) + (Ad w_B x.2.2.2.2.1 : Nat) + 1 + 1 + (Ad w_B x.2.2.2.2.2.2.2.1 : Nat) + (Ad w_B x.2.2.2.2.2.2.2.2.1 : Nat) + 1 + 1 + 1 := by simp only [Ea]; all_goals omega
  have hw : Ea x = 1 + 1 + 1 + Ad w_B x.2.2.2.1 + Ad w_B x.2.2.2.2.1 + 1 + 1 + Ad w_B x.2.2.2.2.2.2.2.1 + Ad w_B x.2.2.2.2.2.2.2.2.1 + 1 + 1 + 1 := rfl
  rw [hk]
  unfold F9
  simp only [Ah, Ak, Ae, Am, Bb, Ig, El hi, Ay, Ch ht, Al, Ar2, Cn, Ap]
  simp (maxSteps := 4000000) (disch := first | omega | (dsimp only; omega)) only [w64, Al, Cn, beq_self_eq_true, Bool.not_true, Ap, Ot, A8, Ao, It, Iv, Px, Ta, Ajc, Aet, Ag4, Ava]) (fun k => by
  unfold F9
  simp only [Ah, Ak, Ae, Am, Bb, Ig, Gk, Ap]) h0 h1
 unfold Pc Le
 simp only [Ah, Ak, Ae, Am, Bb]
 rw [e]
 rfl
theorem Bo5 (d : Ab) (h : Jg (.int .i64 :: .sl 5 [.int .u8] :: .int .i64 :: .int .i64 :: .int .i64 :: .sl 5 [.int .u8] :: .int .i64 :: .int .i64 :: .sl 5 [.int .u8] :: .sl 5 [.int .u8] :: .int .i64 :: .sl 5 [.int .u8] :: .sl 5 [.int .u8] :: .int .i64 :: .int .i64 :: .sl 5 [.int .u8] :: .sl 5 [.int .u8] :: .int .i64 :: .sl 5 [.int .u8] :: .int .i64 :: .sl 5 [.int .u8] :: .int .i64 :: .int .i64 :: .sl 3 [.int .i64] :: .int .i64 :: .sl 5 [.int .u8] :: .int .i64 :: .int .i64 :: .sl 3 [.int .i64] :: .bool :: .int .i64 :: .sl 5 [.int .u8] :: .bool :: .int .i64 :: .int .i64 :: .int .i64 :: .bool :: .int .i64 :: .int .i64 :: .int .i64 :: .int .i64 :: []) d) : Pv d := by
 simp only [Jg, wfD] at h
 unfold Pv
 exact ⟨ml h.2.1.1, ml h.2.2.2.2.2.1.1, ml h.2.2.2.2.2.2.2.2.1.1, ml h.2.2.2.2.2.2.2.2.2.1.1, ml h.2.2.2.2.2.2.2.2.2.2.2.1.1, ml h.2.2.2.2.2.2.2.2.2.2.2.2.1.1, ml h.2.2.2.2.2.2.2.2.2.2.2.2.2.2.2.1.1, ml h.2.2.2.2.2.2.2.2.2.2.2.2.2.2.2.2.1.1, ml h.2.2.2.2.2.2.2.2.2.2.2.2.2.2.2.2.2.2.1.1, ml h.2.2.2.2.2.2.2.2.2.2.2.2.2.2.2.2.2.2.2.2.1.1, ml h.2.2.2.2.2.2.2.2.2.2.2.2.2.2.2.2.2.2.2.2.2.2.2.1.1, ml h.2.2.2.2.2.2.2.2.2.2.2.2.2.2.2.2.2.2.2.2.2.2.2.2.2.1.1, ml h.2.2.2.2.2.2.2.2.2.2.2.2.2.2.2.2.2.2.2.2.2.2.2.2.2.2.2.2.1.1, ml h.2.2.2.2.2.2.2.2.2.2.2.2.2.2.2.2.2.2.2.2.2.2.2.2.2.2.2.2.2.2.2.1.1⟩
theorem Bo6 (d : Aa) (h : Jg [.int .i64, .int .i64, .sl 5 [.int .u8], .sl 5 [.int .u8], .int .i64, .sl 5 [.int .u8], .sl 5 [.int .u8], .int .i64, .int .i64, .sl 5 [.int .u8], .sl 5 [.int .u8]] d) : Jf d := by
 simp only [Jg, wfD] at h
 unfold Jf
 exact ⟨ml h.2.2.1.1, ml h.2.2.2.1.1, ml h.2.2.2.2.2.1.1, ml h.2.2.2.2.2.2.1.1, ml h.2.2.2.2.2.2.2.2.2.1.1, ml h.2.2.2.2.2.2.2.2.2.2.1.1⟩
end
end Go.Proofs.YtggdikabbngbaaaGreat

/-
  That the program and the reference answer alike, in plain terms, and that the laws answer true.
-/
import Derived.Test.YtggdikabbngbaaaGreatW
namespace Go.Proofs.YtggdikabbngbaaaGreat
open Go.RowKit
set_option linter.unusedVariables false
set_option linter.unusedSimpArgs false
set_option maxHeartbeats 4000000
noncomputable section
theorem Bq {α : Type} {l : List α} {i : Nat} {x : α} (h : l[i]? = some x) : idx l (i : Int) = some x := (A8r l i).trans h
theorem Ahj {α : Type} {l : List α} {i : Nat} {x : α} (h : i < l.length) : idx (l.set i x) (i : Int) = some x := by rw [A8r, List.getElem?_set_self h]
theorem Ci {i n : Nat} (h : i < n) : decide ((i : Int) < (n : Int)) = true := by simpa using h
theorem C0 (n : Nat) : decide ((n : Int) < (n : Int)) = false := by simp
theorem B6 {α : Type} [BEq α] [LawfulBEq α] (a : α) : (a != a) = false := by simp
theorem N0 {k : Int} (h : 0 ≤ k) : decide (k < 0) = false := by simpa using h
theorem Ao {p : Prop} [Decidable p] (h : p) : decide p = true := by simpa using h
theorem Bm {p : Prop} [Decidable p] (h : ¬ p) : decide p = false := by simpa using h
theorem El {E : Type} {w : E → Nat} (h : ∀ x, 1 ≤ w x) : ∀ l : List E, l.length ≤ Ad w l
 | [] => by simp [Ad]
 | x :: r => by simp only [Ad, List.length_cons]; have := h x; have := El h r; omega
theorem Dw {ρ : Type} {b : Bool} {x y : Option ρ} (h : b = false) : br b x y = y := by subst h; rfl
theorem J3 {ρ : Type} {b : Bool} {x y : Option ρ} (h : b = true) : br b x y = x := by subst h; rfl
theorem ml {n : Nat} (h : n ≤ maxLen) : n ≤ 9223372036854775807 := by unfold maxLen at h; omega
def w_B (d : YB) : Nat := 1
def m_B (d : YB) (k : Int) : YB := (IntKind.u8.wrap k, ())
def w_I (d : YI) : Nat := 1
def m_I (d : YI) (k : Int) : YI := (k, ())
def Bj (d : Bo) : Nat := d.2.1.length
def Td (d : Bo) : Prop := d.2.1.length ≤ 9223372036854775807
def Gz (d : Bo) : Nat := Ad w_I d.2.1
def Bb (d : YEp) : Nat := d.2.1.length + d.2.2.2.2.1.length
def Ac6 (d : YEp) : Prop := d.2.1.length ≤ 9223372036854775807 ∧ d.2.2.2.2.1.length ≤ 9223372036854775807
def J4 (d : YEp) : Nat := Ad w_B d.2.1 + Ad w_I d.2.2.2.2.1
def Ar (d : Ak) : Nat := d.2.1.length + d.2.2.2.1.length + d.2.2.2.2.2.2.1.length + d.2.2.2.2.2.2.2.2.1.length + d.2.2.2.2.2.2.2.2.2.2.2.1.length + d.2.2.2.2.2.2.2.2.2.2.2.2.2.2.1.length
def Ur (d : Ak) : Prop := d.2.1.length ≤ 9223372036854775807 ∧ d.2.2.2.1.length ≤ 9223372036854775807 ∧ d.2.2.2.2.2.2.1.length ≤ 9223372036854775807 ∧ d.2.2.2.2.2.2.2.2.1.length ≤ 9223372036854775807 ∧ d.2.2.2.2.2.2.2.2.2.2.2.1.length ≤ 9223372036854775807 ∧ d.2.2.2.2.2.2.2.2.2.2.2.2.2.2.1.length ≤ 9223372036854775807
def Fh (d : Ak) : Nat := Ad w_B d.2.1 + Ad w_B d.2.2.2.1 + Ad w_I d.2.2.2.2.2.2.1 + Ad w_B d.2.2.2.2.2.2.2.2.1 + Ad w_I d.2.2.2.2.2.2.2.2.2.2.2.1 + Ad w_B d.2.2.2.2.2.2.2.2.2.2.2.2.2.2.1
def Bd (d : Aj) : Nat := d.2.2.1.length
def Kt (d : Aj) : Prop := d.2.2.1.length ≤ 9223372036854775807
def Cm (d : Aj) : Nat := 1 + 1 + Ad w_B d.2.2.1 + 1
def Qn (d : Aj) (k : Int) : Aj := (k, k + 1, mkL m_B w_B d.2.2.1 (k + 1 + 1), k + 1 + 1 + (Ad w_B d.2.2.1 : Nat), ())
theorem Bjn (d : Aj) : Cm d ≤ 32 * Bd d + 32 := by
 have h2 := Ck (f := w_B) (fun _ => by simp [w_B]) d.2.2.1
 simp only [Cm, Bd]; omega
def A4 (d : A6) : Nat := d.2.2.1.length + Ad Bd d.2.2.1
def Abn (d : A6) : Prop := d.2.2.1.length ≤ 9223372036854775807 ∧ (∀ (i : Nat) x, d.2.2.1[i]? = some x → Kt x)
def Eg (d : A6) : Nat := Ad Cm d.2.2.1
def Bh (d : Bi) : Nat := d.2.1.length + d.2.2.1.length + d.2.2.2.2.1.length + d.2.2.2.2.2.2.1.length + d.2.2.2.2.2.2.2.2.2.1.length + d.2.2.2.2.2.2.2.2.2.2.2.1.length + d.2.2.2.2.2.2.2.2.2.2.2.2.2.2.1.length + d.2.2.2.2.2.2.2.2.2.2.2.2.2.2.2.2.2.1.length + d.2.2.2.2.2.2.2.2.2.2.2.2.2.2.2.2.2.2.2.2.1.length + Ad Bd d.2.2.2.2.2.2.2.2.2.2.2.2.2.2.2.2.2.2.2.2.1
def Us (d : Bi) : Prop := d.2.1.length ≤ 9223372036854775807 ∧ d.2.2.1.length ≤ 9223372036854775807 ∧ d.2.2.2.2.1.length ≤ 9223372036854775807 ∧ d.2.2.2.2.2.2.1.length ≤ 9223372036854775807 ∧ d.2.2.2.2.2.2.2.2.2.1.length ≤ 9223372036854775807 ∧ d.2.2.2.2.2.2.2.2.2.2.2.1.length ≤ 9223372036854775807 ∧ d.2.2.2.2.2.2.2.2.2.2.2.2.2.2.1.length ≤ 9223372036854775807 ∧ d.2.2.2.2.2.2.2.2.2.2.2.2.2.2.2.2.2.1.length ≤ 9223372036854775807 ∧ d.2.2.2.2.2.2.2.2.2.2.2.2.2.2.2.2.2.2.2.2.1.length ≤ 9223372036854775807 ∧ (∀ (i : Nat) x, d.2.2.2.2.2.2.2.2.2.2.2.2.2.2.2.2.2.2.2.2.1[i]? = some x → Kt x)
def I8 (d : Bi) : Nat := Ad w_B d.2.1 + Ad w_B d.2.2.1 + Ad w_B d.2.2.2.2.1 + Ad w_B d.2.2.2.2.2.2.1 + Ad w_I d.2.2.2.2.2.2.2.2.2.1 + Ad w_B d.2.2.2.2.2.2.2.2.2.2.2.1 + Ad w_I d.2.2.2.2.2.2.2.2.2.2.2.2.2.2.1 + Ad w_B d.2.2.2.2.2.2.2.2.2.2.2.2.2.2.2.2.2.1 + Ad Cm d.2.2.2.2.2.2.2.2.2.2.2.2.2.2.2.2.2.2.2.2.1
theorem A1j (d : Bi) : I8 d ≤ 32 * Bh d + 32 := by
 have h1 := Ck (f := w_B) (fun _ => by simp [w_B]) d.2.1
 have h2 := Ck (f := w_B) (fun _ => by simp [w_B]) d.2.2.1
 have h4 := Ck (f := w_B) (fun _ => by simp [w_B]) d.2.2.2.2.1
 have h6 := Ck (f := w_B) (fun _ => by simp [w_B]) d.2.2.2.2.2.2.1
 have h9 := Ck (f := w_I) (fun _ => by simp [w_I]) d.2.2.2.2.2.2.2.2.2.1
 have h11 := Ck (f := w_B) (fun _ => by simp [w_B]) d.2.2.2.2.2.2.2.2.2.2.2.1
 have h14 := Ck (f := w_I) (fun _ => by simp [w_I]) d.2.2.2.2.2.2.2.2.2.2.2.2.2.2.1
 have h17 := Ck (f := w_B) (fun _ => by simp [w_B]) d.2.2.2.2.2.2.2.2.2.2.2.2.2.2.2.2.2.1
 have h20 := Asr (f := Cm) (g := Bd) Bjn d.2.2.2.2.2.2.2.2.2.2.2.2.2.2.2.2.2.2.2.2.1
 simp only [I8, Bh]; omega
def A1 (d : Av) : Nat := d.2.2.1.length + d.2.2.2.1.length + d.2.2.2.2.2.1.length + d.2.2.2.2.2.2.1.length + d.2.2.2.2.2.2.2.2.2.1.length + d.2.2.2.2.2.2.2.2.2.2.1.length
def Ut (d : Av) : Prop := d.2.2.1.length ≤ 9223372036854775807 ∧ d.2.2.2.1.length ≤ 9223372036854775807 ∧ d.2.2.2.2.2.1.length ≤ 9223372036854775807 ∧ d.2.2.2.2.2.2.1.length ≤ 9223372036854775807 ∧ d.2.2.2.2.2.2.2.2.2.1.length ≤ 9223372036854775807 ∧ d.2.2.2.2.2.2.2.2.2.2.1.length ≤ 9223372036854775807
def Q7 (d : Av) : Nat := Ad w_B d.2.2.1 + Ad w_B d.2.2.2.1 + Ad w_B d.2.2.2.2.2.1 + Ad w_B d.2.2.2.2.2.2.1 + Ad w_B d.2.2.2.2.2.2.2.2.2.1 + Ad w_B d.2.2.2.2.2.2.2.2.2.2.1
theorem Bem (d : Av) : Q7 d ≤ 32 * A1 d + 32 := by
 have h2 := Ck (f := w_B) (fun _ => by simp [w_B]) d.2.2.1
 have h3 := Ck (f := w_B) (fun _ => by simp [w_B]) d.2.2.2.1
 have h5 := Ck (f := w_B) (fun _ => by simp [w_B]) d.2.2.2.2.2.1
 have h6 := Ck (f := w_B) (fun _ => by simp [w_B]) d.2.2.2.2.2.2.1
 have h9 := Ck (f := w_B) (fun _ => by simp [w_B]) d.2.2.2.2.2.2.2.2.2.1
 have h10 := Ck (f := w_B) (fun _ => by simp [w_B]) d.2.2.2.2.2.2.2.2.2.2.1
 simp only [Q7, A1]; omega
def C4 (d : B5) : Nat := 0
def Ass (d : B5) : Prop := True
def Db (d : Bg) : Nat := d.2.2.2.2.1.length + d.2.2.2.2.2.1.length + d.2.2.2.2.2.2.2.1.length + d.2.2.2.2.2.2.2.2.1.length + d.2.2.2.2.2.2.2.2.2.2.2.1.length + d.2.2.2.2.2.2.2.2.2.2.2.2.1.length
def F0 (d : Bg) : Nat := 1 + 1 + 1 + 1 + Ad w_B d.2.2.2.2.1 + Ad w_B d.2.2.2.2.2.1 + 1 + Ad w_B d.2.2.2.2.2.2.2.1 + Ad w_B d.2.2.2.2.2.2.2.2.1 + 1 + 1 + Ad w_B d.2.2.2.2.2.2.2.2.2.2.2.1 + Ad w_B d.2.2.2.2.2.2.2.2.2.2.2.2.1
def A1k (d : Bg) (k : Int) : Bg := (k, k + 1, k + 1 + 1, k + 1 + 1 + 1, mkL m_B w_B d.2.2.2.2.1 (k + 1 + 1 + 1 + 1), mkL m_B w_B d.2.2.2.2.2.1 (k + 1 + 1 + 1 + 1 + (Ad w_B d.2.2.2.2.1 : Nat)), k + 1 + 1 + 1 + 1 + (Ad w_B d.2.2.2.2.1 : Nat) + (Ad w_B d.2.2.2.2.2.1 : Nat), mkL m_B w_B d.2.2.2.2.2.2.2.1 (k + 1 + 1 + 1 + 1 + (Ad w_B d.2.2.2.2.1 : Nat) + (Ad w_B d.2.2.2.2.2.1 : Nat) + 1), mkL m_B w_B d.2.2.2.2.2.2.2.2.1 (k + 1 + 1 + 1 + 1 + (Ad w_B d.2.2.2.2.1 : Nat) + (Ad w_B d.2.2.2.2.2.1 : Nat) + 1 + (Ad w_B d.2.2.2.2.2.2.2.1 : Nat)), k + 1 + 1 + 1 + 1 + (Ad w_B d.2.2.2.2.1 : Nat) + (Ad w_B d.2.2.2.2.2.1 : Nat) + 1 + (Ad w_B d.2.2.2.2.2.2.2.1 : Nat) + (Ad w_B d.2.2.2.2.2.2.2.2.1 : Nat), k + 1 + 1 + 1 + 1 + (Ad w_B d.2.2.2.2.1 : Nat) + (Ad w_B d.2.2.2.2.2.1 : Nat) + 1 + (Ad w_B d.2.2.2.2.2.2.2.1 : Nat) + (Ad w_B d.2.2.2.2.2.2.2.2.1 : Nat) + 1, mkL m_B w_B d.2.2.2.2.2.2.2.2.2.2.2.1 (k + 1 + 1 + 1 + 1 + (Ad w_B d.2.2.2.2.1 : Nat) + (Ad w_B d.2.2.2.2.2.1 : Nat) + 1 + (Ad w_B d.2.2.2.2.2.2.2.1 : Nat) + (Ad w_B d.2.2.2.2.2.2.2.2.1 : Nat) + 1 + 1), mkL m_B w_B d.2.2.2.2.2.2.2.2.2.2.2.2.1 (k + 1 + 1 + 1 + 1 + (Ad w_B d.2.2.2.2.1 : Nat) + (Ad w_B d.2.2.2.2.2.1 : Nat) + 1 + (Ad w_B d.2.2.2.2.2.2.2.1 : Nat) + (Ad w_B d.2.2.2.2.2.2.2.2.1 : Nat) + 1 + 1 + (Ad w_B d.2.2.2.2.2.2.2.2.2.2.2.1 : Nat)), ())
theorem Blw (d : Bg) : F0 d ≤ 32 * Db d + 32 := by
 have h4 := Ck (f := w_B) (fun _ => by simp [w_B]) d.2.2.2.2.1
 have h5 := Ck (f := w_B) (fun _ => by simp [w_B]) d.2.2.2.2.2.1
 have h7 := Ck (f := w_B) (fun _ => by simp [w_B]) d.2.2.2.2.2.2.2.1
 have h8 := Ck (f := w_B) (fun _ => by simp [w_B]) d.2.2.2.2.2.2.2.2.1
 have h11 := Ck (f := w_B) (fun _ => by simp [w_B]) d.2.2.2.2.2.2.2.2.2.2.2.1
 have h12 := Ck (f := w_B) (fun _ => by simp [w_B]) d.2.2.2.2.2.2.2.2.2.2.2.2.1
 simp only [F0, Db]; omega
def Cv (d : A5) : Nat := d.2.2.2.1.length + d.2.2.2.2.1.length + d.2.2.2.2.2.2.2.1.length + d.2.2.2.2.2.2.2.2.1.length
def Em (d : A5) : Nat := 1 + 1 + 1 + Ad w_B d.2.2.2.1 + Ad w_B d.2.2.2.2.1 + 1 + 1 + Ad w_B d.2.2.2.2.2.2.2.1 + Ad w_B d.2.2.2.2.2.2.2.2.1 + 1 + 1 + 1
def Are (d : A5) (k : Int) : A5 := (k, k + 1, k + 1 + 1, mkL m_B w_B d.2.2.2.1 (k + 1 + 1 + 1), mkL m_B w_B d.2.2.2.2.1 (k + 1 + 1 + 1 + (Ad w_B d.2.2.2.1 : Nat)), k + 1 + 1 + 1 + (Ad w_B d.2.2.2.1 : Nat) + (Ad w_B d.2.2.2.2.1 : Nat), k + 1 + 1 + 1 + (Ad w_B d.2.2.2.1 : Nat) + (Ad w_B d.2.2.2.2.1 : Nat) + 1, mkL m_B w_B d.2.2.2.2.2.2.2.1 (k + 1 + 1 + 1 + (Ad w_B d.2.2.2.1 : Nat) + (Ad w_B d.2.2.2.2.1 : Nat) + 1 + 1), mkL m_B w_B d.2.2.2.2.2.2.2.2.1 (k + 1 + 1 + 1 + (Ad w_B d.2.2.2.1 : Nat) + (Ad w_B d.2.2.2.2.1 : Nat) + 1 + 1 + (Ad w_B d.2.2.2.2.2.2.2.1 : Nat)), k + 1 + 1 + 1 + (Ad w_B d.2.2.2.1 : Nat) + (Ad w_B d.2.2.2.2.1 : Nat) + 1 + 1 + (Ad w_B d.2.2.2.2.2.2.2.1 : Nat) + (Ad w_B d.2.2.2.2.2.2.2.2.1 : Nat), k + 1 + 1 + 1 + (Ad w_B d.2.2.2.1 : Nat) + (Ad w_B d.2.2.2.2.1 : Nat) + 1 + 1 + (Ad w_B d.2.2.2.2.2.2.2.1 : Nat) + (Ad w_B d.2.2.2.2.2.2.2.2.1 : Nat) + 1, k + 1 + 1 + 1 + (Ad w_B d.2.2.2.1 : Nat) + (Ad w_B d.2.2.2.2.1 : Nat) + 1 + 1 + (Ad w_B d.2.2.2.2.2.2.2.1 : Nat) + (Ad w_B d.2.2.2.2.2.2.2.2.1 : Nat) + 1 + 1, ())
theorem Bjo (d : A5) : Em d ≤ 32 * Cv d + 32 := by
 have h3 := Ck (f := w_B) (fun _ => by simp [w_B]) d.2.2.2.1
 have h4 := Ck (f := w_B) (fun _ => by simp [w_B]) d.2.2.2.2.1
 have h7 := Ck (f := w_B) (fun _ => by simp [w_B]) d.2.2.2.2.2.2.2.1
 have h8 := Ck (f := w_B) (fun _ => by simp [w_B]) d.2.2.2.2.2.2.2.2.1
 simp only [Em, Cv]; omega
theorem Q8 (d : List YB × Unit) (n : Int) (h0 : -1 ≤ n) (h1 : n ≤ 1099511627776) (hl : d.1.length ≤ 9223372036854775807) : Dp d (n, ()) = some (szR (d.1.length) n, ()) := by
 unfold Dp Adr
 simp only [Ae, Ab]
 simp (disch := omega) only [w64]
 unfold szR
 rw [Bas]
 by_cases h : (d.1.length : Int) ≤ n
 ·simp only [decide_eq_true_eq, if_neg (show ¬ (n - (d.1.length : Int) < 0) by omega), if_pos h]
 ·simp only [decide_eq_true_eq, if_pos (show n - (d.1.length : Int) < 0 by omega), if_neg h]
theorem N3 (d : List YB × Unit) (h : d.1.length ≤ 4294967296) : Ct d = some d := by
 have e := fun (m : List YB) (hm : m.length = d.1.length) => A4h (B := Ij) (m := m) (l := d.1) (ok := fun _ => True) (fun m i x y hx hi hy => by
  unfold Ij
  simp only [Ae, Ag, Ab, Ai, A7, Ci hi, A3, Bq hx, Bq hy, Ah, Int.toNat_natCast]
  rw [w64 (by omega)]) (fun m => by
  unfold Ij
  simp only [Ae, Ag, Ab, Ai, A7, C0, An]) hm
 unfold Ct P1
 simp only [Ae, Ag, Ab, Ai, A7, decide_true]
 rw [Ao (by omega), Ao (by omega), A8, A8, A8, e _ (by simp)]
 rfl
theorem Ib (d : List YB × Unit) (h : d.1.length ≤ 4294967296) : Co d d = some (true, ()) := by
 have e := Ahk (B := It) (l := d.1) (fun i x hx hi => by
  unfold It
  simp only [Ae, Ag, Ab, Ai, A7, Ci hi, A3, Bq hx, Ah, B6, An]
  rw [w64 (by omega)]) (by
  unfold It
  simp only [Ae, Ag, Ab, Ai, A7, C0, An])
 unfold Co Qa
 simp only [Ae, Ag, Ab, Ai, A7, B6, An]
 rw [e]
 rfl
theorem Fc (d : List YB × Unit) (k : Int) (h0 : 0 ≤ k) (h1 : k + (Ad w_B d.1 : Nat) ≤ 4611686018427387904) : Bt d (k, ()) = some ((k + (Ad w_B d.1 : Nat), ()), (mkL m_B w_B d.1 k, ())) := by
 have hl := El (w := w_B) (fun x => by simp only [w_B]; omega) d.1
 have e := V4 (B := Gf) m_B w_B (l := d.1) (fun t k i x ht hx hlen h0 h1 hi => by
  have hit : i < t.length := by omega
  have hk : k + ((w_B x : Nat) : Int) = k + 1 := by simp only [w_B]; all_goals omega
  rw [hk]
  unfold Gf
  simp (maxSteps := 4000000) only [Ae, Ag, Ab, Ai, A7, Ci hit, A3, Bq ht, Ah, Int.toNat_natCast]
  simp only [w_B] at *
  simp (maxSteps := 4000000) (disch := first | omega | (dsimp only; omega) | (simp only [List.length_set]; omega)) only [w64, Ahj, List.set_set, Ah, Int.toNat_natCast, A8, Ao]
  rfl) (fun t k hlen => by
  unfold Gf
  exact (Ae _ _ _).trans ((Dw (by simp [hlen])).trans rfl)) h0 h1
 unfold Bt Lw
 simp only [Ae, Ag, Ab, Ai, A7]
 rw [e]
 rfl
theorem G7 (d : List YB) (k : Int) (h0 : 0 ≤ k) (h1 : k + (Ad w_B d : Nat) ≤ 4611686018427387904) : B9 (mkL m_B w_B d k, ()) (k, ()) = some (k + (Ad w_B d : Nat), ()) := by
 have hl := El (w := w_B) (fun x => by simp only [w_B]; omega) d
 have e := V5 (B := Gj) m_B w_B (l := d) (k := k) (fun k i x ht hx h0 h1 hi => by
  have hk : k + ((w_B x : Nat) : Int) = k + 1 := by simp only [w_B]; all_goals omega
  rw [hk]
  unfold Gj
  simp only [Ae, Ag, Ab, Ai, A7, Gn, Ci hi, A3, Bq ht, Ah, m_B, B6, An]
  simp only [w_B] at *
  simp (maxSteps := 4000000) (disch := first | omega | (dsimp only; omega)) only [w64, Ah, B6, beq_self_eq_true, Bool.not_true, An, N0, A8, Ao]) (fun k => by
  unfold Gj
  simp only [Ae, Ag, Ab, Ai, A7, Gn, C0, An]) h0 h1
 unfold B9 Lz
 simp only [Ae, Ag, Ab, Ai, A7]
 rw [e]
 rfl
theorem Uu (d : List YI × Unit) (n : Int) (h0 : -1 ≤ n) (h1 : n ≤ 1099511627776) (hl : d.1.length ≤ 9223372036854775807) : Ah4 d (n, ()) = some (szR (d.1.length) n, ()) := by
 unfold Ah4 Ah3
 simp only [Ae, Ab]
 simp (disch := omega) only [w64]
 unfold szR
 rw [Bas]
 by_cases h : (d.1.length : Int) ≤ n
 ·simp only [decide_eq_true_eq, if_neg (show ¬ (n - (d.1.length : Int) < 0) by omega), if_pos h]
 ·simp only [decide_eq_true_eq, if_pos (show n - (d.1.length : Int) < 0 by omega), if_neg h]
theorem Uv (d : List YI × Unit) (h : d.1.length ≤ 4294967296) : Aic d = some d := by
 have e := fun (m : List YI) (hm : m.length = d.1.length) => A4h (B := J7) (m := m) (l := d.1) (ok := fun _ => True) (fun m i x y hx hi hy => by
  unfold J7
  simp only [Ae, Ag, Ab, Ai, A7, Ci hi, A3, Bq hx, Bq hy, Ah, Int.toNat_natCast]
  rw [w64 (by omega)]) (fun m => by
  unfold J7
  simp only [Ae, Ag, Ab, Ai, A7, C0, An]) hm
 unfold Aic Rx
 simp only [Ae, Ag, Ab, Ai, A7, decide_true]
 rw [Ao (by omega), Ao (by omega), A8, A8, A8, e _ (by simp)]
 rfl
theorem Mm (d : List YI × Unit) (h : d.1.length ≤ 4294967296) : Aj1 d d = some (true, ()) := by
 have e := Ahk (B := Kb) (l := d.1) (fun i x hx hi => by
  unfold Kb
  simp only [Ae, Ag, Ab, Ai, A7, Ci hi, A3, Bq hx, Ah, B6, An]
  rw [w64 (by omega)]) (by
  unfold Kb
  simp only [Ae, Ag, Ab, Ai, A7, C0, An])
 unfold Aj1 Sr
 simp only [Ae, Ag, Ab, Ai, A7, B6, An]
 rw [e]
 rfl
theorem Jg (d : List YI × Unit) (k : Int) (h0 : 0 ≤ k) (h1 : k + (Ad w_I d.1 : Nat) ≤ 4611686018427387904) : Aal d (k, ()) = some ((k + (Ad w_I d.1 : Nat), ()), (mkL m_I w_I d.1 k, ())) := by
 have hl := El (w := w_I) (fun x => by simp only [w_I]; omega) d.1
 have e := V4 (B := Hn) m_I w_I (l := d.1) (fun t k i x ht hx hlen h0 h1 hi => by
  have hit : i < t.length := by omega
  have hk : k + ((w_I x : Nat) : Int) = k + 1 := by simp only [w_I]; all_goals omega
  rw [hk]
  unfold Hn
  simp (maxSteps := 4000000) only [Ae, Ag, Ab, Ai, A7, Ci hit, A3, Bq ht, Ah, Int.toNat_natCast]
  simp only [w_I] at *
  simp (maxSteps := 4000000) (disch := first | omega | (dsimp only; omega) | (simp only [List.length_set]; omega)) only [w64, Ahj, List.set_set, Ah, Int.toNat_natCast, A8, Ao, Fc]
  rfl) (fun t k hlen => by
  unfold Hn
  exact (Ae _ _ _).trans ((Dw (by simp [hlen])).trans rfl)) h0 h1
 unfold Aal Nm
 simp only [Ae, Ag, Ab, Ai, A7]
 rw [e]
 rfl
theorem K6 (d : List YI) (k : Int) (h0 : 0 ≤ k) (h1 : k + (Ad w_I d : Nat) ≤ 4611686018427387904) : Aaq (mkL m_I w_I d k, ()) (k, ()) = some (k + (Ad w_I d : Nat), ()) := by
 have hl := El (w := w_I) (fun x => by simp only [w_I]; omega) d
 have e := V5 (B := Hp) m_I w_I (l := d) (k := k) (fun k i x ht hx h0 h1 hi => by
  have hk : k + ((w_I x : Nat) : Int) = k + 1 := by simp only [w_I]; all_goals omega
  rw [hk]
  unfold Hp
  simp only [Ae, Ag, Ab, Ai, A7, Gn, Ci hi, A3, Bq ht, Ah, m_I, B6, An]
  simp only [w_I] at *
  simp (maxSteps := 4000000) (disch := first | omega | (dsimp only; omega)) only [w64, Ah, B6, beq_self_eq_true, Bool.not_true, An, N0, A8, Ao, G7]) (fun k => by
  unfold Hp
  simp only [Ae, Ag, Ab, Ai, A7, Gn, C0, An]) h0 h1
 unfold Aaq No
 simp only [Ae, Ag, Ab, Ai, A7]
 rw [e]
 rfl
theorem Ahl (d : Bo) (n : Int) (h0 : -1 ≤ n) (h1 : n ≤ 1099511627776) (hl : Td d) : Aoh d (n, ()) = some (szR (Bj d) n, ()) := by
 unfold Td at hl
 skip
 unfold Aoh Aog
 simp only [Ae, Ag, Ab, Ai, A7]
 simp (disch := first | omega | (dsimp only; omega) | exact Abo _ _ | exact Te (by omega) (by omega) | ((repeat' (first | assumption | apply And.intro)); done) | ((first | unfold Td); dsimp only; (repeat' (first | assumption | apply And.intro)); done)) only [Q8, Uu, Ah, Pp]
 all_goals try simp (disch := first | omega | (simp only [Bj]; omega)) only [Axa]
 all_goals (first | rfl | (refine congrArg (fun t => some (szR t n, ())) ?_; simp only [Bj]; omega))
theorem Ahm (d : Bo) (h : Bj d ≤ 4294967296) : Aoj d = some d := by
 have hn : Bj d = d.2.1.length := rfl
 unfold Aoj Aoi
 simp only [Ae, Ag, Ab, Ai, A7]
 simp (disch := first | omega | (simp only [Bj]; omega)) only [N3, Uv, Ah]
 all_goals rfl
theorem Tf (d : Bo) (h : Bj d ≤ 4294967296) : Aot d d = some (true, ()) := by
 have hn : Bj d = d.2.1.length := rfl
 unfold Aot Aos
 simp (disch := first | omega | (simp only [Bj]; omega)) only [Ae, Ag, Ab, Ai, A7, B6, beq_self_eq_true, An, Ah, Bool.not_true, Ib, Mm]
theorem N4 (d : Bo) (k : Int) (h0 : 0 ≤ k) (h1 : k + (Gz d : Nat) ≤ 4611686018427387904) (hl : Bj d ≤ 4294967296) : Aet d (k, ()) = some ((k + (Gz d : Nat), ()), (d.1, mkL m_I w_I d.2.1 (k), ())) := by
 have hn : Bj d = d.2.1.length := rfl
 have hw : Gz d = Ad w_I d.2.1 := rfl
 have hk : k + ((Gz d : Nat) : Int) = k + (Ad w_I d.2.1 : Nat) := by simp only [Gz]; all_goals omega
 rw [hk]
 unfold Aet Aes
 simp (maxSteps := 4000000) (disch := first | omega | (dsimp only; omega)) only [Ae, Ag, Ab, Ai, A7, Ah, Fc, Jg]
theorem N5 (d : Bo) (k : Int) (h0 : 0 ≤ k) (h1 : k + (Gz d : Nat) ≤ 4611686018427387904) (hl : Bj d ≤ 4294967296) : Vh (d.1, mkL m_I w_I d.2.1 (k), ()) (k, ()) = some (k + (Gz d : Nat), ()) := by
 have hn : Bj d = d.2.1.length := rfl
 have hw : Gz d = Ad w_I d.2.1 := rfl
 have hk : k + ((Gz d : Nat) : Int) = k + (Ad w_I d.2.1 : Nat) := by simp only [Gz]; all_goals omega
 rw [hk]
 unfold Vh Aeu
 simp (maxSteps := 4000000) (disch := first | omega | (dsimp only; omega)) only [Ae, Ag, Ab, Ai, A7, Ah, An, N0, G7, K6]
theorem Bjp (c0 : Int) (c1 : List YI) (k : Int) (h0 : 0 ≤ k) (h1 : k + (Gz (c0, c1, ()) : Nat) ≤ 4611686018427387904) (hl : Bj (c0, c1, ()) ≤ 4294967296) : Vh (c0, mkL m_I w_I c1 (k), ()) (k, ()) = some (k + (Gz (c0, c1, ()) : Nat), ()) := N5 (c0, c1, ()) k h0 h1 hl
theorem A1l (d : YEp) (n : Int) (h0 : -1 ≤ n) (h1 : n ≤ 1099511627776) (hl : Ac6 d) : Ah5 d (n, ()) = some (szR (Bb d) n, ()) := by
 unfold Ac6 at hl
 obtain ⟨hl0, hl1⟩ := hl
 unfold Ah5 Ave
 simp only [Ae, Ag, Ab, Ai, A7]
 simp (disch := first | omega | (dsimp only; omega) | exact Abo _ _ | exact Te (by omega) (by omega) | ((repeat' (first | assumption | apply And.intro)); done) | ((first | unfold Ac6 | unfold Td); dsimp only; (repeat' (first | assumption | apply And.intro)); done)) only [Q8, Uu, Ahl, Ah, Pp]
 all_goals try simp (disch := first | omega | (simp only [Bb, Bj]; omega)) only [Axa]
 all_goals (first | rfl | (refine congrArg (fun t => some (szR t n, ())) ?_; simp only [Bb, Bj]; omega))
theorem A1m (d : YEp) (h : Bb d ≤ 4294967296) : Aid d = some d := by
 have hn : Bb d = d.2.1.length + d.2.2.2.2.1.length := rfl
 unfold Aid Avf
 simp only [Ae, Ag, Ab, Ai, A7]
 simp (disch := first | omega | (simp only [Bb, Bj]; omega)) only [N3, Uv, Ahm, Ah]
 all_goals rfl
theorem Ac7 (d : YEp) (h : Bb d ≤ 4294967296) : Aj2 d d = some (true, ()) := by
 have hn : Bb d = d.2.1.length + d.2.2.2.2.1.length := rfl
 unfold Aj2 Av2
 simp (disch := first | omega | (simp only [Bb, Bj]; omega)) only [Ae, Ag, Ab, Ai, A7, B6, beq_self_eq_true, An, Ah, Bool.not_true, Ib, Mm, Tf]
theorem Uw (d : YEp) (k : Int) (h0 : 0 ≤ k) (h1 : k + (J4 d : Nat) ≤ 4611686018427387904) (hl : Bb d ≤ 4294967296) : Xz d (k, ()) = some ((k + (J4 d : Nat), ()), (d.1, mkL m_B w_B d.2.1 (k), d.2.2.1, d.2.2.2.1, mkL m_I w_I d.2.2.2.2.1 (k + (Ad w_B d.2.1 : Nat)), ())) := by
 have hn : Bb d = d.2.1.length + d.2.2.2.2.1.length := rfl
 have hw : J4 d = Ad w_B d.2.1 + Ad w_I d.2.2.2.2.1 := rfl
 have hk : k + ((J4 d : Nat) : Int) = k + (Ad w_B d.2.1 : Nat) + (Ad w_I d.2.2.2.2.1 : Nat) := by simp only [J4]; all_goals omega
 rw [hk]
 unfold Xz Akb
 simp (maxSteps := 4000000) (disch := first | omega | (dsimp only; omega) | (simp only [Bj, Gz, Int.natCast_add]; omega)) only [Ae, Ag, Ab, Ai, A7, Ah, Fc, Jg, N4, Gz, Int.natCast_add, ← Int.add_assoc]
theorem Ux (d : YEp) (k : Int) (h0 : 0 ≤ k) (h1 : k + (J4 d : Nat) ≤ 4611686018427387904) (hl : Bb d ≤ 4294967296) : Sw (d.1, mkL m_B w_B d.2.1 (k), d.2.2.1, d.2.2.2.1, mkL m_I w_I d.2.2.2.2.1 (k + (Ad w_B d.2.1 : Nat)), ()) (k, ()) = some (k + (J4 d : Nat), ()) := by
 have hn : Bb d = d.2.1.length + d.2.2.2.2.1.length := rfl
 have hw : J4 d = Ad w_B d.2.1 + Ad w_I d.2.2.2.2.1 := rfl
 have hk : k + ((J4 d : Nat) : Int) = k + (Ad w_B d.2.1 : Nat) + (Ad w_I d.2.2.2.2.1 : Nat) := by simp only [J4]; all_goals omega
 rw [hk]
 unfold Sw Akc
 simp (maxSteps := 4000000) (disch := first | omega | (dsimp only; omega) | (simp only [Bj, Gz, Int.natCast_add]; omega)) only [Ae, Ag, Ab, Ai, A7, Ah, An, N0, G7, K6, N5, Gz, Int.natCast_add, ← Int.add_assoc, Bjp]
theorem Blx (c0 : Int) (c1 : List YB) (c2 : Int) (c3 : Int) (c4 : List YI) (k : Int) (h0 : 0 ≤ k) (h1 : k + (J4 (c0, c1, c2, c3, c4, ()) : Nat) ≤ 4611686018427387904) (hl : Bb (c0, c1, c2, c3, c4, ()) ≤ 4294967296) : Sw (c0, mkL m_B w_B c1 (k), c2, c3, mkL m_I w_I c4 (k + (Ad w_B c1 : Nat)), ()) (k, ()) = some (k + (J4 (c0, c1, c2, c3, c4, ()) : Nat), ()) := Ux (c0, c1, c2, c3, c4, ()) k h0 h1 hl
theorem Ast (d : Ak) (n : Int) (h0 : -1 ≤ n) (h1 : n ≤ 1099511627776) (hl : Ur d) : Ah7 d (n, ()) = some (szR (Ar d) n, ()) := by
 unfold Ur at hl
 obtain ⟨hl0, hl1, hl2, hl3, hl4, hl5⟩ := hl
 unfold Ah7 Ah6
 simp only [Ae, Ag, Ab, Ai, A7]
 simp (disch := first | omega | (dsimp only; omega) | exact Abo _ _ | exact Te (by omega) (by omega) | ((repeat' (first | assumption | apply And.intro)); done) | ((first | unfold Ur | unfold Td | unfold Ac6); dsimp only; (repeat' (first | assumption | apply And.intro)); done)) only [Q8, Uu, Ahl, A1l, Ah, Pp]
 all_goals try simp (disch := first | omega | (simp only [Ar, Bj, Bb]; omega)) only [Axa]
 all_goals (first | rfl | (refine congrArg (fun t => some (szR t n, ())) ?_; simp only [Ar, Bj, Bb]; omega))
theorem Asu (d : Ak) (h : Ar d ≤ 4294967296) : Aif d = some d := by
 have hn : Ar d = d.2.1.length + d.2.2.2.1.length + d.2.2.2.2.2.2.1.length + d.2.2.2.2.2.2.2.2.1.length + d.2.2.2.2.2.2.2.2.2.2.2.1.length + d.2.2.2.2.2.2.2.2.2.2.2.2.2.2.1.length := rfl
 unfold Aif Aie
 simp only [Ae, Ag, Ab, Ai, A7]
 simp (disch := first | omega | (simp only [Ar, Bj, Bb]; omega)) only [N3, Uv, Ahm, A1m, Ah]
 all_goals rfl
theorem Uy (d : Ak) (h : Ar d ≤ 4294967296) : Aj4 d d = some (true, ()) := by
 have hn : Ar d = d.2.1.length + d.2.2.2.1.length + d.2.2.2.2.2.2.1.length + d.2.2.2.2.2.2.2.2.1.length + d.2.2.2.2.2.2.2.2.2.2.2.1.length + d.2.2.2.2.2.2.2.2.2.2.2.2.2.2.1.length := rfl
 unfold Aj4 Aj3
 simp (disch := first | omega | (simp only [Ar, Bj, Bb]; omega)) only [Ae, Ag, Ab, Ai, A7, B6, beq_self_eq_true, An, Ah, Bool.not_true, Ib, Mm, Tf, Ac7]
theorem Ri (d : Ak) (k : Int) (h0 : 0 ≤ k) (h1 : k + (Fh d : Nat) ≤ 4611686018427387904) (hl : Ar d ≤ 4294967296) : Aan d (k, ()) = some ((k + (Fh d : Nat), ()), (d.1, mkL m_B w_B d.2.1 (k), d.2.2.1, mkL m_B w_B d.2.2.2.1 (k + (Ad w_B d.2.1 : Nat)), d.2.2.2.2.1, d.2.2.2.2.2.1, mkL m_I w_I d.2.2.2.2.2.2.1 (k + (Ad w_B d.2.1 : Nat) + (Ad w_B d.2.2.2.1 : Nat)), d.2.2.2.2.2.2.2.1, mkL m_B w_B d.2.2.2.2.2.2.2.2.1 (k + (Ad w_B d.2.1 : Nat) + (Ad w_B d.2.2.2.1 : Nat) + (Ad w_I d.2.2.2.2.2.2.1 : Nat)), d.2.2.2.2.2.2.2.2.2.1, d.2.2.2.2.2.2.2.2.2.2.1, mkL m_I w_I d.2.2.2.2.2.2.2.2.2.2.2.1 (k + (Ad w_B d.2.1 : Nat) + (Ad w_B d.2.2.2.1 : Nat) + (Ad w_I d.2.2.2.2.2.2.1 : Nat) + (Ad w_B d.2.2.2.2.2.2.2.2.1 : Nat)), d.2.2.2.2.2.2.2.2.2.2.2.2.1, d.2.2.2.2.2.2.2.2.2.2.2.2.2.1, mkL m_B w_B d.2.2.2.2.2.2.2.2.2.2.2.2.2.2.1 (k + (Ad w_B d.2.1 : Nat) + (Ad w_B d.2.2.2.1 : Nat) + (Ad w_I d.2.2.2.2.2.2.1 : Nat) + (Ad w_B d.2.2.2.2.2.2.2.2.1 : Nat) + (Ad w_I d.2.2.2.2.2.2.2.2.2.2.2.1 : Nat)), ())) := by
 have hn : Ar d = d.2.1.length + d.2.2.2.1.length + d.2.2.2.2.2.2.1.length + d.2.2.2.2.2.2.2.2.1.length + d.2.2.2.2.2.2.2.2.2.2.2.1.length + d.2.2.2.2.2.2.2.2.2.2.2.2.2.2.1.length := rfl
 have hw : Fh d = Ad w_B d.2.1 + Ad w_B d.2.2.2.1 + Ad w_I d.2.2.2.2.2.2.1 + Ad w_B d.2.2.2.2.2.2.2.2.1 + Ad w_I d.2.2.2.2.2.2.2.2.2.2.2.1 + Ad w_B d.2.2.2.2.2.2.2.2.2.2.2.2.2.2.1 := rfl
 have hk : k + ((Fh d : Nat) : Int) = k + (Ad w_B d.2.1 : Nat) + (Ad w_B d.2.2.2.1 : Nat) + (Ad w_I d.2.2.2.2.2.2.1 : Nat) + (Ad w_B d.2.2.2.2.2.2.2.2.1 : Nat) + (Ad w_I d.2.2.2.2.2.2.2.2.2.2.2.1 : Nat) + (Ad w_B d.2.2.2.2.2.2.2.2.2.2.2.2.2.2.1 : Nat) := by simp only [Fh]; all_goals omega
 rw [hk]
 unfold Aan Aam
 simp (maxSteps := 4000000) (disch := first | omega | (dsimp only; omega) | (simp only [Bb, J4, Int.natCast_add]; omega)) only [Ae, Ag, Ab, Ai, A7, Ah, Fc, Jg, N4, Uw, J4, Int.natCast_add, ← Int.add_assoc]
theorem Rj (d : Ak) (k : Int) (h0 : 0 ≤ k) (h1 : k + (Fh d : Nat) ≤ 4611686018427387904) (hl : Ar d ≤ 4294967296) : Sx (d.1, mkL m_B w_B d.2.1 (k), d.2.2.1, mkL m_B w_B d.2.2.2.1 (k + (Ad w_B d.2.1 : Nat)), d.2.2.2.2.1, d.2.2.2.2.2.1, mkL m_I w_I d.2.2.2.2.2.2.1 (k + (Ad w_B d.2.1 : Nat) + (Ad w_B d.2.2.2.1 : Nat)), d.2.2.2.2.2.2.2.1, mkL m_B w_B d.2.2.2.2.2.2.2.2.1 (k + (Ad w_B d.2.1 : Nat) + (Ad w_B d.2.2.2.1 : Nat) + (Ad w_I d.2.2.2.2.2.2.1 : Nat)), d.2.2.2.2.2.2.2.2.2.1, d.2.2.2.2.2.2.2.2.2.2.1, mkL m_I w_I d.2.2.2.2.2.2.2.2.2.2.2.1 (k + (Ad w_B d.2.1 : Nat) + (Ad w_B d.2.2.2.1 : Nat) + (Ad w_I d.2.2.2.2.2.2.1 : Nat) + (Ad w_B d.2.2.2.2.2.2.2.2.1 : Nat)), d.2.2.2.2.2.2.2.2.2.2.2.2.1, d.2.2.2.2.2.2.2.2.2.2.2.2.2.1, mkL m_B w_B d.2.2.2.2.2.2.2.2.2.2.2.2.2.2.1 (k + (Ad w_B d.2.1 : Nat) + (Ad w_B d.2.2.2.1 : Nat) + (Ad w_I d.2.2.2.2.2.2.1 : Nat) + (Ad w_B d.2.2.2.2.2.2.2.2.1 : Nat) + (Ad w_I d.2.2.2.2.2.2.2.2.2.2.2.1 : Nat)), ()) (k, ()) = some (k + (Fh d : Nat), ()) := by
 have hn : Ar d = d.2.1.length + d.2.2.2.1.length + d.2.2.2.2.2.2.1.length + d.2.2.2.2.2.2.2.2.1.length + d.2.2.2.2.2.2.2.2.2.2.2.1.length + d.2.2.2.2.2.2.2.2.2.2.2.2.2.2.1.length := rfl
 have hw : Fh d = Ad w_B d.2.1 + Ad w_B d.2.2.2.1 + Ad w_I d.2.2.2.2.2.2.1 + Ad w_B d.2.2.2.2.2.2.2.2.1 + Ad w_I d.2.2.2.2.2.2.2.2.2.2.2.1 + Ad w_B d.2.2.2.2.2.2.2.2.2.2.2.2.2.2.1 := rfl
 have hk : k + ((Fh d : Nat) : Int) = k + (Ad w_B d.2.1 : Nat) + (Ad w_B d.2.2.2.1 : Nat) + (Ad w_I d.2.2.2.2.2.2.1 : Nat) + (Ad w_B d.2.2.2.2.2.2.2.2.1 : Nat) + (Ad w_I d.2.2.2.2.2.2.2.2.2.2.2.1 : Nat) + (Ad w_B d.2.2.2.2.2.2.2.2.2.2.2.2.2.2.1 : Nat) := by simp only [Fh]; all_goals omega
 rw [hk]
 unfold Sx Aar
 simp (maxSteps := 4000000) (disch := first | omega | (dsimp only; omega) | (simp only [Bb, J4, Int.natCast_add]; omega)) only [Ae, Ag, Ab, Ai, A7, Ah, An, N0, G7, K6, N5, Ux, J4, Int.natCast_add, ← Int.add_assoc, Blx]
theorem Bhl (c0 : Int) (c1 : List YB) (c2 : Int) (c3 : List YB) (c4 : Int) (c5 : Int) (c6 : List YI) (c7 : Int) (c8 : List YB) (c9 : Int) (c10 : Int) (c11 : List YI) (c12 : Bool) (c13 : Int) (c14 : List YB) (k : Int) (h0 : 0 ≤ k) (h1 : k + (Fh (c0, c1, c2, c3, c4, c5, c6, c7, c8, c9, c10, c11, c12, c13, c14, ()) : Nat) ≤ 4611686018427387904) (hl : Ar (c0, c1, c2, c3, c4, c5, c6, c7, c8, c9, c10, c11, c12, c13, c14, ()) ≤ 4294967296) : Sx (c0, mkL m_B w_B c1 (k), c2, mkL m_B w_B c3 (k + (Ad w_B c1 : Nat)), c4, c5, mkL m_I w_I c6 (k + (Ad w_B c1 : Nat) + (Ad w_B c3 : Nat)), c7, mkL m_B w_B c8 (k + (Ad w_B c1 : Nat) + (Ad w_B c3 : Nat) + (Ad w_I c6 : Nat)), c9, c10, mkL m_I w_I c11 (k + (Ad w_B c1 : Nat) + (Ad w_B c3 : Nat) + (Ad w_I c6 : Nat) + (Ad w_B c8 : Nat)), c12, c13, mkL m_B w_B c14 (k + (Ad w_B c1 : Nat) + (Ad w_B c3 : Nat) + (Ad w_I c6 : Nat) + (Ad w_B c8 : Nat) + (Ad w_I c11 : Nat)), ()) (k, ()) = some (k + (Fh (c0, c1, c2, c3, c4, c5, c6, c7, c8, c9, c10, c11, c12, c13, c14, ()) : Nat), ()) := Rj (c0, c1, c2, c3, c4, c5, c6, c7, c8, c9, c10, c11, c12, c13, c14, ()) k h0 h1 hl
theorem Ahn (d : B5) : Ld d = some d := by
 have hn : C4 d = 0 := rfl
 unfold Ld Aig
 simp only [Ae, Ag, Ab, Ai, A7]
 skip
 all_goals rfl
theorem Uz (d : B5) : O6 d d = some (true, ()) := by
 have hn : C4 d = 0 := rfl
 unfold O6 Aj5
 simp (disch := first | omega | (simp only [C4, Bj, Bb, Ar]; omega)) only [Ae, Ag, Ab, Ai, A7, B6, beq_self_eq_true, An, Ah, Bool.not_true, Ib, Mm, Tf, Ac7, Uy]
theorem Asv (d : Aj) (n : Int) (h0 : -1 ≤ n) (h1 : n ≤ 1099511627776) (hl : Kt d) : Ah9 d (n, ()) = some (szR (Bd d) n, ()) := by
 unfold Kt at hl
 skip
 unfold Ah9 Ah8
 simp only [Ae, Ag, Ab, Ai, A7]
 simp (disch := first | omega | (dsimp only; omega) | exact Abo _ _ | exact Te (by omega) (by omega) | ((repeat' (first | assumption | apply And.intro)); done) | ((first | unfold Kt | unfold Td | unfold Ac6 | unfold Ur | unfold Ass); dsimp only; (repeat' (first | assumption | apply And.intro)); done)) only [Q8, Uu, Ahl, A1l, Ast, Ah, Pp]
 all_goals try simp (disch := first | omega | (simp only [Bd, Bj, Bb, Ar, C4]; omega)) only [Axa]
 all_goals (first | rfl | (refine congrArg (fun t => some (szR t n, ())) ?_; simp only [Bd, Bj, Bb, Ar, C4]; omega))
theorem Asw (d : Aj) (h : Bd d ≤ 4294967296) : Aii d = some d := by
 have hn : Bd d = d.2.2.1.length := rfl
 unfold Aii Aih
 simp only [Ae, Ag, Ab, Ai, A7]
 simp (disch := first | omega | (simp only [Bd, Bj, Bb, Ar, C4]; omega)) only [N3, Uv, Ahm, A1m, Asu, Ahn, Ah]
 all_goals rfl
theorem Zk (d : Aj) (h : Bd d ≤ 4294967296) : Aj7 d d = some (true, ()) := by
 have hn : Bd d = d.2.2.1.length := rfl
 unfold Aj7 Aj6
 simp (disch := first | omega | (simp only [Bd, Bj, Bb, Ar, C4]; omega)) only [Ae, Ag, Ab, Ai, A7, B6, beq_self_eq_true, An, Ah, Bool.not_true, Ib, Mm, Tf, Ac7, Uy, Uz]
theorem Axb (d : List Aj × Unit) (n : Int) (h0 : -1 ≤ n) (h1 : n ≤ 1099511627776) (hl : d.1.length ≤ 9223372036854775807 ∧ (∀ (i : Nat) x, d.1[i]? = some x → Kt x)) : Ads d (n, ()) = some (szR (d.1.length + Ad Bd d.1) n, ()) := by
 obtain ⟨hl1, hl2⟩ := hl
 unfold Ads P0
 simp only [Ae, Ag, Ab, Ai, A7]
 rw [w64 (by omega)]
 by_cases h : (d.1.length : Int) ≤ n
 ·rw [Bm (by omega), An, Bns Bd (l := d.1) (fun n' i x hx hi h0' h1' => by
    have hlx := hl2 i x hx
    unfold Ls
    simp only [Ae, Ag, Ab, Ai, A7, Ci hi, A3, Bq hx, Ah]
    rw [Asv x n' h0' h1' (by exact hlx), Ah]
    rw [w64 (by omega)]) (fun n' => by
    unfold Ls
    simp only [Ae, Ag, Ab, Ai, A7, C0, An]) (by omega) (by omega), ← Pp]
  unfold szR
  rw [if_pos h]
 ·rw [Ao (by omega), A3]
  unfold szR
  rw [if_neg (by omega)]
theorem Axc (d : List Aj × Unit) (h : d.1.length + Ad Bd d.1 ≤ 4294967296) : Adx d = some d := by
 have e := fun (m : List Aj) (hm : m.length = d.1.length) => A4h (B := Ik) (m := m) (l := d.1) (ok := fun _ => True) (fun m i x y hx hi hy => by
  unfold Ik
  simp only [Ae, Ag, Ab, Ai, A7, Ci hi, A3, Bq hx, Bq hy, Ah, Int.toNat_natCast]
  have hx2 := Pq (f := Bd) hx
  rw [Asw x (by first | omega | (simp only [Bd] at *; omega)), Ah]
  try simp only [Bq hy, Ah, Int.toNat_natCast]
  rw [w64 (by omega)]) (fun m => by
  unfold Ik
  simp only [Ae, Ag, Ab, Ai, A7, C0, An]) hm
 unfold Adx P2
 simp only [Ae, Ag, Ab, Ai, A7, decide_true]
 rw [Ao (by omega), Ao (by omega), A8, A8, A8, e _ (by simp)]
 rfl
theorem Abp (d : List Aj × Unit) (h : d.1.length + Ad Bd d.1 ≤ 4294967296) : Aeo d d = some (true, ()) := by
 have e := Ahk (B := Iu) (l := d.1) (fun i x hx hi => by
  unfold Iu
  simp only [Ae, Ag, Ab, Ai, A7, Ci hi, A3, Bq hx, Ah, B6, An]
  have hx2 := Pq (f := Bd) hx
  rw [Zk x (by first | omega | (simp only [Bd] at *; omega)), Ah]
  try simp only [Bool.not_true, An]
  rw [w64 (by omega)]) (by
  unfold Iu
  simp only [Ae, Ag, Ab, Ai, A7, C0, An])
 unfold Aeo Qb
 simp only [Ae, Ag, Ab, Ai, A7, B6, An]
 rw [e]
 rfl
theorem Tg (d : List Aj × Unit) (k : Int) (h0 : 0 ≤ k) (h1 : k + (Ad Cm d.1 : Nat) ≤ 4611686018427387904) : Wq d (k, ()) = some ((k + (Ad Cm d.1 : Nat), ()), (mkL Qn Cm d.1 k, ())) := by
 have hl := El (w := Cm) (fun x => by simp only [Cm]; omega) d.1
 have e := V4 (B := Gg) Qn Cm (l := d.1) (fun t k i x ht hx hlen h0 h1 hi => by
  have hit : i < t.length := by omega
  have hw : Cm x = 1 + 1 + Ad w_B x.2.2.1 + 1 := rfl
  have hk : k + ((Cm x : Nat) : Int) = k + 1 + 1 + (Ad w_B x.2.2.1 : Nat) + 1 := by simp only [Cm]; all_goals omega
  rw [hk]
  unfold Gg
  simp (maxSteps := 4000000) only [Ae, Ag, Ab, Ai, A7, Ci hit, A3, Bq ht, Ah, Int.toNat_natCast]
  simp (maxSteps := 4000000) (disch := first | omega | (dsimp only; omega) | (simp only [List.length_set]; omega)) only [w64, Ahj, List.set_set, Ah, Int.toNat_natCast, A8, Ao, Fc, Jg, N4, Uw, Ri]
  rfl) (fun t k hlen => by
  unfold Gg
  exact (Ae _ _ _).trans ((Dw (by simp [hlen])).trans rfl)) h0 h1
 unfold Wq Lx
 simp only [Ae, Ag, Ab, Ai, A7]
 rw [e]
 rfl
theorem X8 (d : List Aj) (k : Int) (h0 : 0 ≤ k) (h1 : k + (Ad Cm d : Nat) ≤ 4611686018427387904) : Ww (mkL Qn Cm d k, ()) (k, ()) = some (k + (Ad Cm d : Nat), ()) := by
 have hl := El (w := Cm) (fun x => by simp only [Cm]; omega) d
 have e := V5 (B := Gk) Qn Cm (l := d) (k := k) (fun k i x ht hx h0 h1 hi => by
  have hk : k + ((Cm x : Nat) : Int) = k + 1 + 1 + (Ad w_B x.2.2.1 : Nat) + 1 := by simp only [Cm]; all_goals omega
  have hw : Cm x = 1 + 1 + Ad w_B x.2.2.1 + 1 := rfl
  rw [hk]
  unfold Gk
  simp only [Ae, Ag, Ab, Ai, A7, Gn, Ci hi, A3, Bq ht, Ah, Qn, B6, An]
  simp (maxSteps := 4000000) (disch := first | omega | (dsimp only; omega)) only [w64, Ah, B6, beq_self_eq_true, Bool.not_true, An, N0, A8, Ao, G7, K6, N5, Ux, Rj]) (fun k => by
  unfold Gk
  simp only [Ae, Ag, Ab, Ai, A7, Gn, C0, An]) h0 h1
 unfold Ww L0
 simp only [Ae, Ag, Ab, Ai, A7]
 rw [e]
 rfl
theorem Bat (d : A6) (n : Int) (h0 : -1 ≤ n) (h1 : n ≤ 1099511627776) (hl : Abn d) : Adu d (n, ()) = some (szR (A4 d) n, ()) := by
 unfold Abn at hl
 obtain ⟨hl0, hl1⟩ := hl
 unfold Adu Adt
 simp only [Ae, Ag, Ab, Ai, A7]
 simp (disch := first | omega | (dsimp only; omega) | exact Abo _ _ | exact Te (by omega) (by omega) | ((repeat' (first | assumption | apply And.intro)); done) | ((first | unfold Abn | unfold Td | unfold Ac6 | unfold Ur | unfold Ass | unfold Kt); dsimp only; (repeat' (first | assumption | apply And.intro)); done)) only [Q8, Uu, Ahl, A1l, Ast, Asv, Axb, Ah, Pp]
 all_goals try simp (disch := first | omega | (simp only [A4, Bj, Bb, Ar, C4, Bd]; omega)) only [Axa]
 all_goals (first | rfl | (refine congrArg (fun t => some (szR t n, ())) ?_; simp only [A4, Bj, Bb, Ar, C4, Bd]; omega))
theorem Bau (d : A6) (h : A4 d ≤ 4294967296) : Adz d = some d := by
 have hn : A4 d = d.2.2.1.length + Ad Bd d.2.2.1 := rfl
 unfold Adz Ady
 simp only [Ae, Ag, Ab, Ai, A7]
 simp (disch := first | omega | (simp only [A4, Bj, Bb, Ar, C4, Bd]; omega)) only [N3, Uv, Ahm, A1m, Asu, Ahn, Asw, Axc, Ah]
 all_goals rfl
theorem Alk (d : A6) (h : A4 d ≤ 4294967296) : Aeq d d = some (true, ()) := by
 have hn : A4 d = d.2.2.1.length + Ad Bd d.2.2.1 := rfl
 unfold Aeq Aep
 simp (disch := first | omega | (simp only [A4, Bj, Bb, Ar, C4, Bd]; omega)) only [Ae, Ag, Ab, Ai, A7, B6, beq_self_eq_true, An, Ah, Bool.not_true, Ib, Mm, Tf, Ac7, Uy, Uz, Zk, Abp]
theorem X9 (d : A6) (k : Int) (h0 : 0 ≤ k) (h1 : k + (Eg d : Nat) ≤ 4611686018427387904) (hl : A4 d ≤ 4294967296) : Ws d (k, ()) = some ((k + (Eg d : Nat), ()), (d.1, d.2.1, mkL Qn Cm d.2.2.1 (k), ())) := by
 have hn : A4 d = d.2.2.1.length + Ad Bd d.2.2.1 := rfl
 have hw : Eg d = Ad Cm d.2.2.1 := rfl
 have hk : k + ((Eg d : Nat) : Int) = k + (Ad Cm d.2.2.1 : Nat) := by simp only [Eg]; all_goals omega
 rw [hk]
 unfold Ws Wr
 simp (maxSteps := 4000000) (disch := first | omega | (dsimp only; omega)) only [Ae, Ag, Ab, Ai, A7, Ah, Fc, Jg, N4, Uw, Ri, Tg]
theorem Za (d : A6) (k : Int) (h0 : 0 ≤ k) (h1 : k + (Eg d : Nat) ≤ 4611686018427387904) (hl : A4 d ≤ 4294967296) : Q0 (d.1, d.2.1, mkL Qn Cm d.2.2.1 (k), ()) (k, ()) = some (k + (Eg d : Nat), ()) := by
 have hn : A4 d = d.2.2.1.length + Ad Bd d.2.2.1 := rfl
 have hw : Eg d = Ad Cm d.2.2.1 := rfl
 have hk : k + ((Eg d : Nat) : Int) = k + (Ad Cm d.2.2.1 : Nat) := by simp only [Eg]; all_goals omega
 rw [hk]
 unfold Q0 Wx
 simp (maxSteps := 4000000) (disch := first | omega | (dsimp only; omega)) only [Ae, Ag, Ab, Ai, A7, Ah, An, N0, G7, K6, N5, Ux, Rj, X8]
theorem Ben (c0 : Int) (c1 : Int) (c2 : List Aj) (k : Int) (h0 : 0 ≤ k) (h1 : k + (Eg (c0, c1, c2, ()) : Nat) ≤ 4611686018427387904) (hl : A4 (c0, c1, c2, ()) ≤ 4294967296) : Q0 (c0, c1, mkL Qn Cm c2 (k), ()) (k, ()) = some (k + (Eg (c0, c1, c2, ()) : Nat), ()) := Za (c0, c1, c2, ()) k h0 h1 hl
theorem Bfm (d : Bi) (n : Int) (h0 : -1 ≤ n) (h1 : n ≤ 1099511627776) (hl : Us d) : Aib d (n, ()) = some (szR (Bh d) n, ()) := by
 unfold Us at hl
 obtain ⟨hl0, hl1, hl2, hl3, hl4, hl5, hl6, hl7, hl8, hl9⟩ := hl
 unfold Aib Aia
 simp only [Ae, Ag, Ab, Ai, A7]
 simp (disch := first | omega | (dsimp only; omega) | exact Abo _ _ | exact Te (by omega) (by omega) | ((repeat' (first | assumption | apply And.intro)); done) | ((first | unfold Us | unfold Td | unfold Ac6 | unfold Ur | unfold Ass | unfold Kt | unfold Abn); dsimp only; (repeat' (first | assumption | apply And.intro)); done)) only [Q8, Uu, Ahl, A1l, Ast, Asv, Axb, Bat, Ah, Pp]
 all_goals try simp (disch := first | omega | (simp only [Bh, Bj, Bb, Ar, C4, Bd, A4]; omega)) only [Axa]
 all_goals (first | rfl | (refine congrArg (fun t => some (szR t n, ())) ?_; simp only [Bh, Bj, Bb, Ar, C4, Bd, A4]; omega))
theorem Bfn (d : Bi) (h : Bh d ≤ 4294967296) : Ol d = some d := by
 have hn : Bh d = d.2.1.length + d.2.2.1.length + d.2.2.2.2.1.length + d.2.2.2.2.2.2.1.length + d.2.2.2.2.2.2.2.2.2.1.length + d.2.2.2.2.2.2.2.2.2.2.2.1.length + d.2.2.2.2.2.2.2.2.2.2.2.2.2.2.1.length + d.2.2.2.2.2.2.2.2.2.2.2.2.2.2.2.2.2.1.length + d.2.2.2.2.2.2.2.2.2.2.2.2.2.2.2.2.2.2.2.2.1.length + Ad Bd d.2.2.2.2.2.2.2.2.2.2.2.2.2.2.2.2.2.2.2.2.1 := rfl
 unfold Ol Aij
 simp only [Ae, Ag, Ab, Ai, A7]
 simp (disch := first | omega | (simp only [Bh, Bj, Bb, Ar, C4, Bd, A4]; omega)) only [N3, Uv, Ahm, A1m, Asu, Ahn, Asw, Axc, Bau, Ah]
 all_goals rfl
theorem Asx (d : Bi) (h : Bh d ≤ 4294967296) : O7 d d = some (true, ()) := by
 have hn : Bh d = d.2.1.length + d.2.2.1.length + d.2.2.2.2.1.length + d.2.2.2.2.2.2.1.length + d.2.2.2.2.2.2.2.2.2.1.length + d.2.2.2.2.2.2.2.2.2.2.2.1.length + d.2.2.2.2.2.2.2.2.2.2.2.2.2.2.1.length + d.2.2.2.2.2.2.2.2.2.2.2.2.2.2.2.2.2.1.length + d.2.2.2.2.2.2.2.2.2.2.2.2.2.2.2.2.2.2.2.2.1.length + Ad Bd d.2.2.2.2.2.2.2.2.2.2.2.2.2.2.2.2.2.2.2.2.1 := rfl
 unfold O7 Aj8
 simp (disch := first | omega | (simp only [Bh, Bj, Bb, Ar, C4, Bd, A4]; omega)) only [Ae, Ag, Ab, Ai, A7, B6, beq_self_eq_true, An, Ah, Bool.not_true, Ib, Mm, Tf, Ac7, Uy, Uz, Zk, Abp, Alk]
theorem Ac8 (d : Bi) (k : Int) (h0 : 0 ≤ k) (h1 : k + (I8 d : Nat) ≤ 4611686018427387904) (hl : Bh d ≤ 4294967296) : Sv d (k, ()) = some ((k + (I8 d : Nat), ()), (d.1, mkL m_B w_B d.2.1 (k), mkL m_B w_B d.2.2.1 (k + (Ad w_B d.2.1 : Nat)), d.2.2.2.1, mkL m_B w_B d.2.2.2.2.1 (k + (Ad w_B d.2.1 : Nat) + (Ad w_B d.2.2.1 : Nat)), d.2.2.2.2.2.1, mkL m_B w_B d.2.2.2.2.2.2.1 (k + (Ad w_B d.2.1 : Nat) + (Ad w_B d.2.2.1 : Nat) + (Ad w_B d.2.2.2.2.1 : Nat)), d.2.2.2.2.2.2.2.1, d.2.2.2.2.2.2.2.2.1, mkL m_I w_I d.2.2.2.2.2.2.2.2.2.1 (k + (Ad w_B d.2.1 : Nat) + (Ad w_B d.2.2.1 : Nat) + (Ad w_B d.2.2.2.2.1 : Nat) + (Ad w_B d.2.2.2.2.2.2.1 : Nat)), d.2.2.2.2.2.2.2.2.2.2.1, mkL m_B w_B d.2.2.2.2.2.2.2.2.2.2.2.1 (k + (Ad w_B d.2.1 : Nat) + (Ad w_B d.2.2.1 : Nat) + (Ad w_B d.2.2.2.2.1 : Nat) + (Ad w_B d.2.2.2.2.2.2.1 : Nat) + (Ad w_I d.2.2.2.2.2.2.2.2.2.1 : Nat)), d.2.2.2.2.2.2.2.2.2.2.2.2.1, d.2.2.2.2.2.2.2.2.2.2.2.2.2.1, mkL m_I w_I d.2.2.2.2.2.2.2.2.2.2.2.2.2.2.1 (k + (Ad w_B d.2.1 : Nat) + (Ad w_B d.2.2.1 : Nat) + (Ad w_B d.2.2.2.2.1 : Nat) + (Ad w_B d.2.2.2.2.2.2.1 : Nat) + (Ad w_I d.2.2.2.2.2.2.2.2.2.1 : Nat) + (Ad w_B d.2.2.2.2.2.2.2.2.2.2.2.1 : Nat)), d.2.2.2.2.2.2.2.2.2.2.2.2.2.2.2.1, d.2.2.2.2.2.2.2.2.2.2.2.2.2.2.2.2.1, mkL m_B w_B d.2.2.2.2.2.2.2.2.2.2.2.2.2.2.2.2.2.1 (k + (Ad w_B d.2.1 : Nat) + (Ad w_B d.2.2.1 : Nat) + (Ad w_B d.2.2.2.2.1 : Nat) + (Ad w_B d.2.2.2.2.2.2.1 : Nat) + (Ad w_I d.2.2.2.2.2.2.2.2.2.1 : Nat) + (Ad w_B d.2.2.2.2.2.2.2.2.2.2.2.1 : Nat) + (Ad w_I d.2.2.2.2.2.2.2.2.2.2.2.2.2.2.1 : Nat)), d.2.2.2.2.2.2.2.2.2.2.2.2.2.2.2.2.2.2.1, d.2.2.2.2.2.2.2.2.2.2.2.2.2.2.2.2.2.2.2.1, mkL Qn Cm d.2.2.2.2.2.2.2.2.2.2.2.2.2.2.2.2.2.2.2.2.1 (k + (Ad w_B d.2.1 : Nat) + (Ad w_B d.2.2.1 : Nat) + (Ad w_B d.2.2.2.2.1 : Nat) + (Ad w_B d.2.2.2.2.2.2.1 : Nat) + (Ad w_I d.2.2.2.2.2.2.2.2.2.1 : Nat) + (Ad w_B d.2.2.2.2.2.2.2.2.2.2.2.1 : Nat) + (Ad w_I d.2.2.2.2.2.2.2.2.2.2.2.2.2.2.1 : Nat) + (Ad w_B d.2.2.2.2.2.2.2.2.2.2.2.2.2.2.2.2.2.1 : Nat)), d.2.2.2.2.2.2.2.2.2.2.2.2.2.2.2.2.2.2.2.2.2.1, d.2.2.2.2.2.2.2.2.2.2.2.2.2.2.2.2.2.2.2.2.2.2.1, d.2.2.2.2.2.2.2.2.2.2.2.2.2.2.2.2.2.2.2.2.2.2.2.1, ())) := by
 have hn : Bh d = d.2.1.length + d.2.2.1.length + d.2.2.2.2.1.length + d.2.2.2.2.2.2.1.length + d.2.2.2.2.2.2.2.2.2.1.length + d.2.2.2.2.2.2.2.2.2.2.2.1.length + d.2.2.2.2.2.2.2.2.2.2.2.2.2.2.1.length + d.2.2.2.2.2.2.2.2.2.2.2.2.2.2.2.2.2.1.length + d.2.2.2.2.2.2.2.2.2.2.2.2.2.2.2.2.2.2.2.2.1.length + Ad Bd d.2.2.2.2.2.2.2.2.2.2.2.2.2.2.2.2.2.2.2.2.1 := rfl
 have hw : I8 d = Ad w_B d.2.1 + Ad w_B d.2.2.1 + Ad w_B d.2.2.2.2.1 + Ad w_B d.2.2.2.2.2.2.1 + Ad w_I d.2.2.2.2.2.2.2.2.2.1 + Ad w_B d.2.2.2.2.2.2.2.2.2.2.2.1 + Ad w_I d.2.2.2.2.2.2.2.2.2.2.2.2.2.2.1 + Ad w_B d.2.2.2.2.2.2.2.2.2.2.2.2.2.2.2.2.2.1 + Ad Cm d.2.2.2.2.2.2.2.2.2.2.2.2.2.2.2.2.2.2.2.2.1 := rfl
 have hk : k + ((I8 d : Nat) : Int) = k + (Ad w_B d.2.1 : Nat) + (Ad w_B d.2.2.1 : Nat) + (Ad w_B d.2.2.2.2.1 : Nat) + (Ad w_B d.2.2.2.2.2.2.1 : Nat) + (Ad w_I d.2.2.2.2.2.2.2.2.2.1 : Nat) + (Ad w_B d.2.2.2.2.2.2.2.2.2.2.2.1 : Nat) + (Ad w_I d.2.2.2.2.2.2.2.2.2.2.2.2.2.2.1 : Nat) + (Ad w_B d.2.2.2.2.2.2.2.2.2.2.2.2.2.2.2.2.2.1 : Nat) + (Ad Cm d.2.2.2.2.2.2.2.2.2.2.2.2.2.2.2.2.2.2.2.2.1 : Nat) := by simp only [I8]; all_goals omega
 rw [hk]
 unfold Sv Aao
 simp (maxSteps := 4000000) (disch := first | omega | (dsimp only; omega) | (simp only [Ar, Fh, A4, Eg, Int.natCast_add]; omega)) only [Ae, Ag, Ab, Ai, A7, Ah, Fc, Jg, N4, Uw, Ri, Tg, X9, Fh, Eg, Int.natCast_add, ← Int.add_assoc]
theorem Arf (d : Bi) (k : Int) (h0 : 0 ≤ k) (h1 : k + (I8 d : Nat) ≤ 4611686018427387904) (hl : Bh d ≤ 4294967296) : Sy (d.1, mkL m_B w_B d.2.1 (k), mkL m_B w_B d.2.2.1 (k + (Ad w_B d.2.1 : Nat)), d.2.2.2.1, mkL m_B w_B d.2.2.2.2.1 (k + (Ad w_B d.2.1 : Nat) + (Ad w_B d.2.2.1 : Nat)), d.2.2.2.2.2.1, mkL m_B w_B d.2.2.2.2.2.2.1 (k + (Ad w_B d.2.1 : Nat) + (Ad w_B d.2.2.1 : Nat) + (Ad w_B d.2.2.2.2.1 : Nat)), d.2.2.2.2.2.2.2.1, d.2.2.2.2.2.2.2.2.1, mkL m_I w_I d.2.2.2.2.2.2.2.2.2.1 (k + (Ad w_B d.2.1 : Nat) + (Ad w_B d.2.2.1 : Nat) + (Ad w_B d.2.2.2.2.1 : Nat) + (Ad w_B d.2.2.2.2.2.2.1 : Nat)), d.2.2.2.2.2.2.2.2.2.2.1, mkL m_B w_B d.2.2.2.2.2.2.2.2.2.2.2.1 (k + (Ad w_B d.2.1 : Nat) + (Ad w_B d.2.2.1 : Nat) + (Ad w_B d.2.2.2.2.1 : Nat) + (Ad w_B d.2.2.2.2.2.2.1 : Nat) + (Ad w_I d.2.2.2.2.2.2.2.2.2.1 : Nat)), d.2.2.2.2.2.2.2.2.2.2.2.2.1, d.2.2.2.2.2.2.2.2.2.2.2.2.2.1, mkL m_I w_I d.2.2.2.2.2.2.2.2.2.2.2.2.2.2.1 (k + (Ad w_B d.2.1 : Nat) + (Ad w_B d.2.2.1 : Nat) + (Ad w_B d.2.2.2.2.1 : Nat) + (Ad w_B d.2.2.2.2.2.2.1 : Nat) + (Ad w_I d.2.2.2.2.2.2.2.2.2.1 : Nat) + (Ad w_B d.2.2.2.2.2.2.2.2.2.2.2.1 : Nat)), d.2.2.2.2.2.2.2.2.2.2.2.2.2.2.2.1, d.2.2.2.2.2.2.2.2.2.2.2.2.2.2.2.2.1, mkL m_B w_B d.2.2.2.2.2.2.2.2.2.2.2.2.2.2.2.2.2.1 (k + (Ad w_B d.2.1 : Nat) + (Ad w_B d.2.2.1 : Nat) + (Ad w_B d.2.2.2.2.1 : Nat) + (Ad w_B d.2.2.2.2.2.2.1 : Nat) + (Ad w_I d.2.2.2.2.2.2.2.2.2.1 : Nat) + (Ad w_B d.2.2.2.2.2.2.2.2.2.2.2.1 : Nat) + (Ad w_I d.2.2.2.2.2.2.2.2.2.2.2.2.2.2.1 : Nat)), d.2.2.2.2.2.2.2.2.2.2.2.2.2.2.2.2.2.2.1, d.2.2.2.2.2.2.2.2.2.2.2.2.2.2.2.2.2.2.2.1, mkL Qn Cm d.2.2.2.2.2.2.2.2.2.2.2.2.2.2.2.2.2.2.2.2.1 (k + (Ad w_B d.2.1 : Nat) + (Ad w_B d.2.2.1 : Nat) + (Ad w_B d.2.2.2.2.1 : Nat) + (Ad w_B d.2.2.2.2.2.2.1 : Nat) + (Ad w_I d.2.2.2.2.2.2.2.2.2.1 : Nat) + (Ad w_B d.2.2.2.2.2.2.2.2.2.2.2.1 : Nat) + (Ad w_I d.2.2.2.2.2.2.2.2.2.2.2.2.2.2.1 : Nat) + (Ad w_B d.2.2.2.2.2.2.2.2.2.2.2.2.2.2.2.2.2.1 : Nat)), d.2.2.2.2.2.2.2.2.2.2.2.2.2.2.2.2.2.2.2.2.2.1, d.2.2.2.2.2.2.2.2.2.2.2.2.2.2.2.2.2.2.2.2.2.2.1, d.2.2.2.2.2.2.2.2.2.2.2.2.2.2.2.2.2.2.2.2.2.2.2.1, ()) (k, ()) = some (k + (I8 d : Nat), ()) := by
 have hn : Bh d = d.2.1.length + d.2.2.1.length + d.2.2.2.2.1.length + d.2.2.2.2.2.2.1.length + d.2.2.2.2.2.2.2.2.2.1.length + d.2.2.2.2.2.2.2.2.2.2.2.1.length + d.2.2.2.2.2.2.2.2.2.2.2.2.2.2.1.length + d.2.2.2.2.2.2.2.2.2.2.2.2.2.2.2.2.2.1.length + d.2.2.2.2.2.2.2.2.2.2.2.2.2.2.2.2.2.2.2.2.1.length + Ad Bd d.2.2.2.2.2.2.2.2.2.2.2.2.2.2.2.2.2.2.2.2.1 := rfl
 have hw : I8 d = Ad w_B d.2.1 + Ad w_B d.2.2.1 + Ad w_B d.2.2.2.2.1 + Ad w_B d.2.2.2.2.2.2.1 + Ad w_I d.2.2.2.2.2.2.2.2.2.1 + Ad w_B d.2.2.2.2.2.2.2.2.2.2.2.1 + Ad w_I d.2.2.2.2.2.2.2.2.2.2.2.2.2.2.1 + Ad w_B d.2.2.2.2.2.2.2.2.2.2.2.2.2.2.2.2.2.1 + Ad Cm d.2.2.2.2.2.2.2.2.2.2.2.2.2.2.2.2.2.2.2.2.1 := rfl
 have hk : k + ((I8 d : Nat) : Int) = k + (Ad w_B d.2.1 : Nat) + (Ad w_B d.2.2.1 : Nat) + (Ad w_B d.2.2.2.2.1 : Nat) + (Ad w_B d.2.2.2.2.2.2.1 : Nat) + (Ad w_I d.2.2.2.2.2.2.2.2.2.1 : Nat) + (Ad w_B d.2.2.2.2.2.2.2.2.2.2.2.1 : Nat) + (Ad w_I d.2.2.2.2.2.2.2.2.2.2.2.2.2.2.1 : Nat) + (Ad w_B d.2.2.2.2.2.2.2.2.2.2.2.2.2.2.2.2.2.1 : Nat) + (Ad Cm d.2.2.2.2.2.2.2.2.2.2.2.2.2.2.2.2.2.2.2.2.1 : Nat) := by simp only [I8]; all_goals omega
 rw [hk]
 unfold Sy Aas
 simp (maxSteps := 4000000) (disch := first | omega | (dsimp only; omega) | (simp only [Ar, Fh, A4, Eg, Int.natCast_add]; omega)) only [Ae, Ag, Ab, Ai, A7, Ah, An, N0, G7, K6, N5, Ux, Rj, X8, Za, Fh, Eg, Int.natCast_add, ← Int.add_assoc, Bhl, Ben]
theorem Bly (d : Av) (n : Int) (h0 : -1 ≤ n) (h1 : n ≤ 1099511627776) (hl : Ut d) : Adw d (n, ()) = some (szR (A1 d) n, ()) := by
 unfold Ut at hl
 obtain ⟨hl0, hl1, hl2, hl3, hl4, hl5⟩ := hl
 unfold Adw Adv
 simp only [Ae, Ag, Ab, Ai, A7]
 simp (disch := first | omega | (dsimp only; omega) | exact Abo _ _ | exact Te (by omega) (by omega) | ((repeat' (first | assumption | apply And.intro)); done) | ((first | unfold Ut | unfold Td | unfold Ac6 | unfold Ur | unfold Ass | unfold Kt | unfold Abn | unfold Us); dsimp only; (repeat' (first | assumption | apply And.intro)); done)) only [Q8, Uu, Ahl, A1l, Ast, Asv, Axb, Bat, Bfm, Ah, Pp]
 all_goals try simp (disch := first | omega | (simp only [A1, Bj, Bb, Ar, C4, Bd, A4, Bh]; omega)) only [Axa]
 all_goals (first | rfl | (refine congrArg (fun t => some (szR t n, ())) ?_; simp only [A1, Bj, Bb, Ar, C4, Bd, A4, Bh]; omega))
theorem Blz (d : Av) (h : A1 d ≤ 4294967296) : L8 d = some d := by
 have hn : A1 d = d.2.2.1.length + d.2.2.2.1.length + d.2.2.2.2.2.1.length + d.2.2.2.2.2.2.1.length + d.2.2.2.2.2.2.2.2.2.1.length + d.2.2.2.2.2.2.2.2.2.2.1.length := rfl
 unfold L8 Ad0
 simp only [Ae, Ag, Ab, Ai, A7]
 simp (disch := first | omega | (simp only [A1, Bj, Bb, Ar, C4, Bd, A4, Bh]; omega)) only [N3, Uv, Ahm, A1m, Asu, Ahn, Asw, Axc, Bau, Bfn, Ah]
 all_goals rfl
theorem Axd (d : Av) (h : A1 d ≤ 4294967296) : Vg d d = some (true, ()) := by
 have hn : A1 d = d.2.2.1.length + d.2.2.2.1.length + d.2.2.2.2.2.1.length + d.2.2.2.2.2.2.1.length + d.2.2.2.2.2.2.2.2.2.1.length + d.2.2.2.2.2.2.2.2.2.2.1.length := rfl
 unfold Vg Aer
 simp (disch := first | omega | (simp only [A1, Bj, Bb, Ar, C4, Bd, A4, Bh]; omega)) only [Ae, Ag, Ab, Ai, A7, B6, beq_self_eq_true, An, Ah, Bool.not_true, Ib, Mm, Tf, Ac7, Uy, Uz, Zk, Abp, Alk, Asx]
theorem All (d : Av) (k : Int) (h0 : 0 ≤ k) (h1 : k + (Q7 d : Nat) ≤ 4611686018427387904) (hl : A1 d ≤ 4294967296) : Wu d (k, ()) = some ((k + (Q7 d : Nat), ()), (d.1, d.2.1, mkL m_B w_B d.2.2.1 (k), mkL m_B w_B d.2.2.2.1 (k + (Ad w_B d.2.2.1 : Nat)), d.2.2.2.2.1, mkL m_B w_B d.2.2.2.2.2.1 (k + (Ad w_B d.2.2.1 : Nat) + (Ad w_B d.2.2.2.1 : Nat)), mkL m_B w_B d.2.2.2.2.2.2.1 (k + (Ad w_B d.2.2.1 : Nat) + (Ad w_B d.2.2.2.1 : Nat) + (Ad w_B d.2.2.2.2.2.1 : Nat)), d.2.2.2.2.2.2.2.1, d.2.2.2.2.2.2.2.2.1, mkL m_B w_B d.2.2.2.2.2.2.2.2.2.1 (k + (Ad w_B d.2.2.1 : Nat) + (Ad w_B d.2.2.2.1 : Nat) + (Ad w_B d.2.2.2.2.2.1 : Nat) + (Ad w_B d.2.2.2.2.2.2.1 : Nat)), mkL m_B w_B d.2.2.2.2.2.2.2.2.2.2.1 (k + (Ad w_B d.2.2.1 : Nat) + (Ad w_B d.2.2.2.1 : Nat) + (Ad w_B d.2.2.2.2.2.1 : Nat) + (Ad w_B d.2.2.2.2.2.2.1 : Nat) + (Ad w_B d.2.2.2.2.2.2.2.2.2.1 : Nat)), ())) := by
 have hn : A1 d = d.2.2.1.length + d.2.2.2.1.length + d.2.2.2.2.2.1.length + d.2.2.2.2.2.2.1.length + d.2.2.2.2.2.2.2.2.2.1.length + d.2.2.2.2.2.2.2.2.2.2.1.length := rfl
 have hw : Q7 d = Ad w_B d.2.2.1 + Ad w_B d.2.2.2.1 + Ad w_B d.2.2.2.2.2.1 + Ad w_B d.2.2.2.2.2.2.1 + Ad w_B d.2.2.2.2.2.2.2.2.2.1 + Ad w_B d.2.2.2.2.2.2.2.2.2.2.1 := rfl
 have hk : k + ((Q7 d : Nat) : Int) = k + (Ad w_B d.2.2.1 : Nat) + (Ad w_B d.2.2.2.1 : Nat) + (Ad w_B d.2.2.2.2.2.1 : Nat) + (Ad w_B d.2.2.2.2.2.2.1 : Nat) + (Ad w_B d.2.2.2.2.2.2.2.2.2.1 : Nat) + (Ad w_B d.2.2.2.2.2.2.2.2.2.2.1 : Nat) := by simp only [Q7]; all_goals omega
 rw [hk]
 unfold Wu Wt
 simp (maxSteps := 4000000) (disch := first | omega | (dsimp only; omega)) only [Ae, Ag, Ab, Ai, A7, Ah, Fc, Jg, N4, Uw, Ri, Tg, X9, Ac8]
theorem Bjq (d : Bg) (h : Db d ≤ 4294967296) : Aov d d = some (true, ()) := by
 have hn : Db d = d.2.2.2.2.1.length + d.2.2.2.2.2.1.length + d.2.2.2.2.2.2.2.1.length + d.2.2.2.2.2.2.2.2.1.length + d.2.2.2.2.2.2.2.2.2.2.2.1.length + d.2.2.2.2.2.2.2.2.2.2.2.2.1.length := rfl
 unfold Aov Aou
 simp (disch := first | omega | (simp only [Db, Bj, Bb, Ar, C4, Bd, A4, Bh, A1]; omega)) only [Ae, Ag, Ab, Ai, A7, B6, beq_self_eq_true, An, Ah, Bool.not_true, Ib, Mm, Tf, Ac7, Uy, Uz, Zk, Abp, Alk, Asx, Axd]
theorem Bfo (d : List Bg × Unit) (h : d.1.length + Ad Db d.1 ≤ 4294967296) : Su d d = some (true, ()) := by
 have e := Ahk (B := Kc) (l := d.1) (fun i x hx hi => by
  unfold Kc
  simp only [Ae, Ag, Ab, Ai, A7, Ci hi, A3, Bq hx, Ah, B6, An]
  have hx2 := Pq (f := Db) hx
  rw [Bjq x (by first | omega | (simp only [Db] at *; omega)), Ah]
  try simp only [Bool.not_true, An]
  rw [w64 (by omega)]) (by
  unfold Kc
  simp only [Ae, Ag, Ab, Ai, A7, C0, An])
 unfold Su Ss
 simp only [Ae, Ag, Ab, Ai, A7, B6, An]
 rw [e]
 rfl
theorem A56 (d : List Bg × Unit) (k : Int) (h0 : 0 ≤ k) (h1 : k + (Ad F0 d.1 : Nat) ≤ 4611686018427387904) : Aap d (k, ()) = some ((k + (Ad F0 d.1 : Nat), ()), (mkL A1k F0 d.1 k, ())) := by
 have hl := El (w := F0) (fun x => by simp only [F0]; omega) d.1
 have e := V4 (B := Ho) A1k F0 (l := d.1) (fun t k i x ht hx hlen h0 h1 hi => by
  have hit : i < t.length := by omega
  have hw : F0 x = 1 + 1 + 1 + 1 + Ad w_B x.2.2.2.2.1 + Ad w_B x.2.2.2.2.2.1 + 1 + Ad w_B x.2.2.2.2.2.2.2.1 + Ad w_B x.2.2.2.2.2.2.2.2.1 + 1 + 1 + Ad w_B x.2.2.2.2.2.2.2.2.2.2.2.1 + Ad w_B x.2.2.2.2.2.2.2.2.2.2.2.2.1 := rfl
  have hk : k + ((F0 x : Nat) : Int) = k + 1 + 1 + 1 + 1 + (Ad w_B x.2.2.2.2.1 : Nat) + (Ad w_B x.2.2.2.2.2.1 : Nat) + 1 + (Ad w_B x.2.2.2.2.2.2.2.1 : Nat) + (Ad w_B x.2.2.2.2.2.2.2.2.1 : Nat) + 1 + 1 + (Ad w_B x.2.2.2.2.2.2.2.2.2.2.2.1 : Nat) + (Ad w_B x.2.2.2.2.2.2.2.2.2.2.2.2.1 : Nat) := by simp only [F0]; all_goals omega
  rw [hk]
  unfold Ho
  simp (maxSteps := 4000000) only [Ae, Ag, Ab, Ai, A7, Ci hit, A3, Bq ht, Ah, Int.toNat_natCast]
  simp (maxSteps := 4000000) (disch := first | omega | (dsimp only; omega) | (simp only [List.length_set]; omega)) only [w64, Ahj, List.set_set, Ah, Int.toNat_natCast, A8, Ao, Fc, Jg, N4, Uw, Ri, Tg, X9, Ac8, All]
  rfl) (fun t k hlen => by
  unfold Ho
  exact (Ae _ _ _).trans ((Dw (by simp [hlen])).trans rfl)) h0 h1
 unfold Aap Nn
 simp only [Ae, Ag, Ab, Ai, A7]
 rw [e]
 rfl
theorem A57 (d : List Bg) (k : Int) (h0 : 0 ≤ k) (h1 : k + (Ad F0 d : Nat) ≤ 4611686018427387904) : Sz (mkL A1k F0 d k, ()) (k, ()) = some (k + (Ad F0 d : Nat), ()) := by
 have hl := El (w := F0) (fun x => by simp only [F0]; omega) d
 have e := V5 (B := Hq) A1k F0 (l := d) (k := k) (fun k i x ht hx h0 h1 hi => by
  have hk : k + ((F0 x : Nat) : Int) = k + 1 + 1 + 1 + 1 + (Ad w_B x.2.2.2.2.1 : Nat) + (Ad w_B x.2.2.2.2.2.1 : Nat) + 1 + (Ad w_B x.2.2.2.2.2.2.2.1 : Nat) + (Ad w_B x.2.2.2.2.2.2.2.2.1 : Nat) + 1 + 1 + (Ad w_B x.2.2.2.2.2.2.2.2.2.2.2.1 : Nat) + (Ad w_B x.2.2.2.2.2.2.2.2.2.2.2.2.1 : Nat) := by simp only [F0]; all_goals omega
  have hw : F0 x = 1 + 1 + 1 + 1 + Ad w_B x.2.2.2.2.1 + Ad w_B x.2.2.2.2.2.1 + 1 + Ad w_B x.2.2.2.2.2.2.2.1 + Ad w_B x.2.2.2.2.2.2.2.2.1 + 1 + 1 + Ad w_B x.2.2.2.2.2.2.2.2.2.2.2.1 + Ad w_B x.2.2.2.2.2.2.2.2.2.2.2.2.1 := rfl
  rw [hk]
  unfold Hq
  simp only [Ae, Ag, Ab, Ai, A7, Gn, Ci hi, A3, Bq ht, Ah, A1k, B6, An]
  simp (maxSteps := 4000000) (disch := first | omega | (dsimp only; omega)) only [w64, Ah, B6, beq_self_eq_true, Bool.not_true, An, N0, A8, Ao, G7, K6, N5, Ux, Rj, X8, Za, Arf]) (fun k => by
  unfold Hq
  simp only [Ae, Ag, Ab, Ai, A7, Gn, C0, An]) h0 h1
 unfold Sz Np
 simp only [Ae, Ag, Ab, Ai, A7]
 rw [e]
 rfl
theorem Bnt (d : A5) (h : Cv d ≤ 4294967296) : Aka d d = some (true, ()) := by
 have hn : Cv d = d.2.2.2.1.length + d.2.2.2.2.1.length + d.2.2.2.2.2.2.2.1.length + d.2.2.2.2.2.2.2.2.1.length := rfl
 unfold Aka Aj9
 simp (disch := first | omega | (simp only [Cv, Bj, Bb, Ar, C4, Bd, A4, Bh, A1, Db]; omega)) only [Ae, Ag, Ab, Ai, A7, B6, beq_self_eq_true, An, Ah, Bool.not_true, Ib, Mm, Tf, Ac7, Uy, Uz, Zk, Abp, Alk, Asx, Axd, Bjq, Bfo]
theorem Bl0 (d : List A5 × Unit) (h : d.1.length + Ad Cv d.1 ≤ 4294967296) : Qd d d = some (true, ()) := by
 have e := Ahk (B := Iv) (l := d.1) (fun i x hx hi => by
  unfold Iv
  simp only [Ae, Ag, Ab, Ai, A7, Ci hi, A3, Bq hx, Ah, B6, An]
  have hx2 := Pq (f := Cv) hx
  rw [Bnt x (by first | omega | (simp only [Cv] at *; omega)), Ah]
  try simp only [Bool.not_true, An]
  rw [w64 (by omega)]) (by
  unfold Iv
  simp only [Ae, Ag, Ab, Ai, A7, C0, An])
 unfold Qd Qc
 simp only [Ae, Ag, Ab, Ai, A7, B6, An]
 rw [e]
 rfl
theorem Bhm (d : List A5 × Unit) (k : Int) (h0 : 0 ≤ k) (h1 : k + (Ad Em d.1 : Nat) ≤ 4611686018427387904) : Wv d (k, ()) = some ((k + (Ad Em d.1 : Nat), ()), (mkL Are Em d.1 k, ())) := by
 have hl := El (w := Em) (fun x => by simp only [Em]; omega) d.1
 have e := V4 (B := Gi) Are Em (l := d.1) (fun t k i x ht hx hlen h0 h1 hi => by
  have hit : i < t.length := by omega
  have hw : Em x = 1 + 1 + 1 + Ad w_B x.2.2.2.1 + Ad w_B x.2.2.2.2.1 + 1 + 1 + Ad w_B x.2.2.2.2.2.2.2.1 + Ad w_B x.2.2.2.2.2.2.2.2.1 + 1 + 1 + 1 := rfl
  have hk : k + ((Em x : Nat) : Int) = k + 1 + 1 + 1 + (Ad w_B x.2.2.2.1 : Nat) + (Ad w_B x.2.2.2.2.1 : Nat) + 1 + 1 + (Ad w_B x.2.2.2.2.2.2.2.1 : Nat) + (Ad w_B x.2.2.2.2.2.2.2.2.1 : Nat) + 1 + 1 + 1 := by simp only [Em]; all_goals omega
  rw [hk]
  unfold Gi
  simp (maxSteps := 4000000) only [Ae, Ag, Ab, Ai, A7, Ci hit, A3, Bq ht, Ah, Int.toNat_natCast]
  simp (maxSteps := 4000000) (disch := first | omega | (dsimp only; omega) | (simp only [List.length_set]; omega)) only [w64, Ahj, List.set_set, Ah, Int.toNat_natCast, A8, Ao, Fc, Jg, N4, Uw, Ri, Tg, X9, Ac8, All, A56]
  rfl) (fun t k hlen => by
  unfold Gi
  exact (Ae _ _ _).trans ((Dw (by simp [hlen])).trans rfl)) h0 h1
 unfold Wv Ly
 simp only [Ae, Ag, Ab, Ai, A7]
 rw [e]
 rfl
theorem Bhn (d : List A5) (k : Int) (h0 : 0 ≤ k) (h1 : k + (Ad Em d : Nat) ≤ 4611686018427387904) : Q1 (mkL Are Em d k, ()) (k, ()) = some (k + (Ad Em d : Nat), ()) := by
 have hl := El (w := Em) (fun x => by simp only [Em]; omega) d
 have e := V5 (B := Gl) Are Em (l := d) (k := k) (fun k i x ht hx h0 h1 hi => by
  have hk : k + ((Em x : Nat) : Int) = k + 1 + 1 + 1 + (Ad w_B x.2.2.2.1 : Nat) + (Ad w_B x.2.2.2.2.1 : Nat) + 1 + 1 + (Ad w_B x.2.2.2.2.2.2.2.1 : Nat) + (Ad w_B x.2.2.2.2.2.2.2.2.1 : Nat) + 1 + 1 + 1 := by simp only [Em]; all_goals omega
  have hw : Em x = 1 + 1 + 1 + Ad w_B x.2.2.2.1 + Ad w_B x.2.2.2.2.1 + 1 + 1 + Ad w_B x.2.2.2.2.2.2.2.1 + Ad w_B x.2.2.2.2.2.2.2.2.1 + 1 + 1 + 1 := rfl
  rw [hk]
  unfold Gl
  simp only [Ae, Ag, Ab, Ai, A7, Gn, Ci hi, A3, Bq ht, Ah, Are, B6, An]
  simp (maxSteps := 4000000) (disch := first | omega | (dsimp only; omega)) only [w64, Ah, B6, beq_self_eq_true, Bool.not_true, An, N0, A8, Ao, G7, K6, N5, Ux, Rj, X8, Za, Arf, A57]) (fun k => by
  unfold Gl
  simp only [Ae, Ag, Ab, Ai, A7, Gn, C0, An]) h0 h1
 unfold Q1 L3
 simp only [Ae, Ag, Ab, Ai, A7]
 rw [e]
 rfl
theorem Bp9 (d : Aj) (h : Fr [.int .i64, .int .i64, .sl 5 [.int .u8], .int .i64] d) : Kt d := by
 simp only [Fr, wfD] at h
 unfold Kt
 exact ml h.2.2.1.1
theorem Bqa (d : Bi) (h : Fr [.int .i64, .sl 5 [.int .u8], .sl 5 [.int .u8], .int .i64, .sl 5 [.int .u8], .int .i64, .sl 5 [.int .u8], .int .i64, .int .i64, .sl 3 [.int .i64], .int .i64, .sl 5 [.int .u8], .int .i64, .int .i64, .sl 3 [.int .i64], .bool, .int .i64, .sl 5 [.int .u8], .int .i64, .int .i64, .sl 361 [.int .i64, .int .i64, .sl 5 [.int .u8], .int .i64], .int .i64, .int .i64, .bool] d) : Us d := by
 simp only [Fr, wfD] at h
 unfold Us
 exact ⟨ml h.2.1.1, ml h.2.2.1.1, ml h.2.2.2.2.1.1, ml h.2.2.2.2.2.2.1.1, ml h.2.2.2.2.2.2.2.2.2.1.1, ml h.2.2.2.2.2.2.2.2.2.2.2.1.1, ml h.2.2.2.2.2.2.2.2.2.2.2.2.2.2.1.1, ml h.2.2.2.2.2.2.2.2.2.2.2.2.2.2.2.2.2.1.1, ml h.2.2.2.2.2.2.2.2.2.2.2.2.2.2.2.2.2.2.2.2.1.1, fun i x hx => Bp9 x (h.2.2.2.2.2.2.2.2.2.2.2.2.2.2.2.2.2.2.2.2.1.2 i x hx)⟩
theorem Bqb (d : Av) (h : Fr [.int .i64, .int .i64, .sl 5 [.int .u8], .sl 5 [.int .u8], .int .i64, .sl 5 [.int .u8], .sl 5 [.int .u8], .int .i64, .int .i64, .sl 5 [.int .u8], .sl 5 [.int .u8]] d) : Ut d := by
 simp only [Fr, wfD] at h
 unfold Ut
 exact ⟨ml h.2.2.1.1, ml h.2.2.2.1.1, ml h.2.2.2.2.2.1.1, ml h.2.2.2.2.2.2.1.1, ml h.2.2.2.2.2.2.2.2.2.1.1, ml h.2.2.2.2.2.2.2.2.2.2.1.1⟩
end
end Go.Proofs.YtggdikabbngbaaaGreat

/-
  That the program and the reference answer alike, in plain terms, and that the laws answer true.
-/
import Derived.Test.YtggdikabbngbaaaW
namespace Go.Proofs.Ytggdikabbngbaaa
open Go.RowKit
set_option linter.unusedVariables false
set_option linter.unusedSimpArgs false
set_option maxHeartbeats 4000000
noncomputable section
theorem A5 {α : Type} {l : List α} {i : Nat} {x : α} (h : l[i]? = some x) : idx l (i : Int) = some x := (Akj l i).trans h
theorem Zb {α : Type} {l : List α} {i : Nat} {x : α} (h : i < l.length) : idx (l.set i x) (i : Int) = some x := by rw [Akj, List.getElem?_set_self h]
theorem Cd {i n : Nat} (h : i < n) : decide ((i : Int) < (n : Int)) = true := by simpa using h
theorem Cp (n : Nat) : decide ((n : Int) < (n : Int)) = false := by simp
theorem C8 {α : Type} [BEq α] [LawfulBEq α] (a : α) : (a != a) = false := by simp
theorem Ar1 {k : Int} (h : 0 ≤ k) : decide (k < 0) = false := by simpa using h
theorem Ak {p : Prop} [Decidable p] (h : p) : decide p = true := by simpa using h
theorem A2 {p : Prop} [Decidable p] (h : ¬ p) : decide p = false := by simpa using h
theorem I6 {E : Type} {w : E → Nat} (h : ∀ x, 1 ≤ w x) : ∀ l : List E, l.length ≤ A7 w l
 | [] => by simp [A7]
 | x :: r => by simp only [A7, List.length_cons]; have := h x; have := I6 h r; omega
theorem Ew {ρ : Type} {b : Bool} {x y : Option ρ} (h : b = false) : br b x y = y := by subst h; rfl
theorem M7 {ρ : Type} {b : Bool} {x y : Option ρ} (h : b = true) : br b x y = x := by subst h; rfl
theorem ml {n : Nat} (h : n ≤ maxLen) : n ≤ 9223372036854775807 := by unfold maxLen at h; omega
def w_B (d : YB) : Nat := 1
def m_B (d : YB) (k : Int) : YB := (IntKind.u8.wrap k, ())
def Bv (d : YOp) : Nat := d.2.2.2.1.length
def M8 (d : YOp) : Prop := d.2.2.2.1.length ≤ 9223372036854775807
def Ms (d : YOp) : Nat := 1 + 1 + 1 + A7 w_B d.2.2.2.1
def Awd (d : YOp) (k : Int) : YOp := (k, k + 1, k + 1 + 1, mkL m_B w_B d.2.2.2.1 (k + 1 + 1 + 1), ())
theorem Avb (d : YOp) : Ms d ≤ 32 * Bv d + 32 := by
 have h3 := Oy (f := w_B) (fun _ => by simp [w_B]) d.2.2.2.1
 simp only [Ms, Bv]; omega
def Br (d : Az) : Nat := d.2.2.2.2.1.length
def Jz (d : Az) : Prop := d.2.2.2.2.1.length ≤ 9223372036854775807
def G3 (d : Az) : Nat := 1 + 1 + 1 + 1 + A7 w_B d.2.2.2.2.1
def Ar2 (d : Az) (k : Int) : Az := (k, k + 1, k + 1 + 1, k + 1 + 1 + 1, mkL m_B w_B d.2.2.2.2.1 (k + 1 + 1 + 1 + 1), ())
theorem Ar3 (d : Az) : G3 d ≤ 32 * Br d + 32 := by
 have h4 := Oy (f := w_B) (fun _ => by simp [w_B]) d.2.2.2.2.1
 simp only [G3, Br]; omega
def Dk (d : YBs) : Nat := d.1.length
def Ae8 (d : YBs) : Prop := d.1.length ≤ 9223372036854775807
def Q4 (d : YBs) : Nat := A7 w_B d.1
def Awe (d : YBs) (k : Int) : YBs := (mkL m_B w_B d.1 (k), ())
theorem Avc (d : YBs) : Q4 d ≤ 32 * Dk d + 32 := by
 have h0 := Oy (f := w_B) (fun _ => by simp [w_B]) d.1
 simp only [Q4, Dk]; omega
def H6 (d : Je) : Nat := 0
def Avd (d : Je) : Prop := True
theorem Acj (d : List YB × Unit) (n : Int) (h0 : -1 ≤ n) (h1 : n ≤ 1099511627776) (hl : d.1.length ≤ 9223372036854775807) : Iu d (n, ()) = some (szR (d.1.length) n, ()) := by
 unfold Iu Qb
 simp only [Ae, Ad]
 simp (disch := omega) only [w64]
 unfold szR
 rw [Aqe]
 by_cases h : (d.1.length : Int) ≤ n
 ·simp only [decide_eq_true_eq, if_neg (show ¬ (n - (d.1.length : Int) < 0) by omega), if_pos h]
 ·simp only [decide_eq_true_eq, if_pos (show n - (d.1.length : Int) < 0 by omega), if_neg h]
theorem Ack (d : List YB × Unit) (h : d.1.length ≤ 4294967296) : Iy d = some d := by
 have e := fun (m : List YB) (hm : m.length = d.1.length) => Zc (B := E0) (m := m) (l := d.1) (ok := fun _ => True) (fun m i x y hx hi hy => by
  unfold E0
  simp only [Ae, Af, Ad, Ah, A9, Cd hi, Ax, A5 hx, A5 hy, Ag, Int.toNat_natCast]
  rw [w64 (by omega)]) (fun m => by
  unfold E0
  simp only [Ae, Af, Ad, Ah, A9, Cp, Al]) hm
 unfold Iy Ix
 simp only [Ae, Af, Ad, Ah, A9, decide_true]
 rw [Ak (by omega), Ak (by omega), A0, A0, A0, e _ (by simp)]
 rfl
theorem Oz (d : List YB × Unit) (h : d.1.length ≤ 4294967296) : Ea d d = some (true, ()) := by
 have e := Zd (B := E8) (l := d.1) (fun i x hx hi => by
  unfold E8
  simp only [Ae, Af, Ad, Ah, A9, Cd hi, Ax, A5 hx, Ag, C8, Al]
  rw [w64 (by omega)]) (by
  unfold E8
  simp only [Ae, Af, Ad, Ah, A9, Cp, Al])
 unfold Ea I1
 simp only [Ae, Af, Ad, Ah, A9, C8, Al]
 rw [e]
 rfl
theorem M9 (d : List YB × Unit) (k : Int) (h0 : 0 ≤ k) (h1 : k + (A7 w_B d.1 : Nat) ≤ 4611686018427387904) : Fa d (k, ()) = some ((k + (A7 w_B d.1 : Nat), ()), (mkL m_B w_B d.1 k, ())) := by
 have hl := I6 (w := w_B) (fun x => by simp only [w_B]; omega) d.1
 have e := Px (B := Dr) m_B w_B (l := d.1) (fun t k i x ht hx hlen h0 h1 hi => by
  have hit : i < t.length := by omega
  have hk : k + ((w_B x : Nat) : Int) = k + 1 := by simp only [w_B]; all_goals omega
  rw [hk]
  unfold Dr
  simp (maxSteps := 4000000) only [Ae, Af, Ad, Ah, A9, Cd hit, Ax, A5 ht, Ag, Int.toNat_natCast]
  simp only [w_B] at *
  simp (maxSteps := 4000000) (disch := first | omega | (dsimp only; omega) | (simp only [List.length_set]; omega)) only [w64, Zb, List.set_set, Ag, Int.toNat_natCast, A0, Ak]
  rfl) (fun t k hlen => by
  unfold Dr
  exact (Ae _ _ _).trans ((Ew (by simp [hlen])).trans rfl)) h0 h1
 unfold Fa Gx
 simp only [Ae, Af, Ad, Ah, A9]
 rw [e]
 rfl
theorem Aqf (d : List YB) (k : Int) (h0 : 0 ≤ k) (h1 : k + (A7 w_B d : Nat) ≤ 4611686018427387904) : Jf (mkL m_B w_B d k, ()) (k, ()) = some (k + (A7 w_B d : Nat), ()) := by
 have hl := I6 (w := w_B) (fun x => by simp only [w_B]; omega) d
 have e := Ar4 (B := Dt) m_B w_B (l := d) (k := k) (fun k i x ht hx h0 h1 hi => by
  have hk : k + ((w_B x : Nat) : Int) = k + 1 := by simp only [w_B]; all_goals omega
  rw [hk]
  unfold Dt
  simp only [Ae, Af, Ad, Ah, A9, Nj, Cd hi, Ax, A5 ht, Ag, m_B, C8, Al]
  simp only [w_B] at *
  simp (maxSteps := 4000000) (disch := first | omega | (dsimp only; omega)) only [w64, Ag, C8, beq_self_eq_true, Bool.not_true, Al, Ar1, A0, Ak]) (fun k => by
  unfold Dt
  simp only [Ae, Af, Ad, Ah, A9, Nj, Cp, Al]) h0 h1
 unfold Jf Gz
 simp only [Ae, Af, Ad, Ah, A9]
 rw [e]
 rfl
theorem Au2 (d : YOp) (n : Int) (h0 : -1 ≤ n) (h1 : n ≤ 1099511627776) (hl : M8 d) : Abb d (n, ()) = some (szR (Bv d) n, ()) := by
 unfold M8 at hl
 skip
 unfold Abb Aba
 simp only [Ae, Af, Ad, Ah, A9]
 simp (disch := first | omega | (dsimp only; omega) | exact Ae9 _ _ | exact Xg (by omega) (by omega) | ((repeat' (first | assumption | apply And.intro)); done) | ((first | unfold M8); dsimp only; (repeat' (first | assumption | apply And.intro)); done)) only [Acj, Ag, J0]
 all_goals try simp (disch := first | omega | (simp only [Bv]; omega)) only [Awf]
 all_goals (first | rfl | (refine congrArg (fun t => some (szR t n, ())) ?_; simp only [Bv]; omega))
theorem Au3 (d : YOp) (h : Bv d ≤ 4294967296) : Abd d = some d := by
 have hn : Bv d = d.2.2.2.1.length := rfl
 unfold Abd Abc
 simp only [Ae, Af, Ad, Ah, A9]
 simp (disch := first | omega | (simp only [Bv]; omega)) only [Ack, Ag]
 all_goals rfl
theorem Aqg (d : YOp) (h : Bv d ≤ 4294967296) : Abk d d = some (true, ()) := by
 have hn : Bv d = d.2.2.2.1.length := rfl
 unfold Abk Abj
 simp (disch := first | omega | (simp only [Bv]; omega)) only [Ae, Af, Ad, Ah, A9, C8, beq_self_eq_true, Al, Ag, Bool.not_true, Oz]
theorem Ar5 (d : List YOp × Unit) (n : Int) (h0 : -1 ≤ n) (h1 : n ≤ 1099511627776) (hl : d.1.length ≤ 9223372036854775807 ∧ (∀ (i : Nat) x, d.1[i]? = some x → M8 x)) : Vw d (n, ()) = some (szR (d.1.length + A7 Bv d.1) n, ()) := by
 obtain ⟨hl1, hl2⟩ := hl
 unfold Vw Ly
 simp only [Ae, Af, Ad, Ah, A9]
 rw [w64 (by omega)]
 by_cases h : (d.1.length : Int) ≤ n
 ·rw [A2 (by omega), Al, Ahj Bv (l := d.1) (fun n' i x hx hi h0' h1' => by
    have hlx := hl2 i x hx
    unfold Iv
    simp only [Ae, Af, Ad, Ah, A9, Cd hi, Ax, A5 hx, Ag]
    rw [Au2 x n' h0' h1' (by exact hlx), Ag]
    rw [w64 (by omega)]) (fun n' => by
    unfold Iv
    simp only [Ae, Af, Ad, Ah, A9, Cp, Al]) (by omega) (by omega), ← J0]
  unfold szR
  rw [if_pos h]
 ·rw [Ak (by omega), Ax]
  unfold szR
  rw [if_neg (by omega)]
theorem Ar6 (d : List YOp × Unit) (h : d.1.length + A7 Bv d.1 ≤ 4294967296) : Jt d = some d := by
 have e := fun (m : List YOp) (hm : m.length = d.1.length) => Zc (B := G5) (m := m) (l := d.1) (ok := fun _ => True) (fun m i x y hx hi hy => by
  unfold G5
  simp only [Ae, Af, Ad, Ah, A9, Cd hi, Ax, A5 hx, A5 hy, Ag, Int.toNat_natCast]
  have hx2 := Nk (f := Bv) hx
  rw [Au3 x (by first | omega | (simp only [Bv] at *; omega)), Ag]
  try simp only [A5 hy, Ag, Int.toNat_natCast]
  rw [w64 (by omega)]) (fun m => by
  unfold G5
  simp only [Ae, Af, Ad, Ah, A9, Cp, Al]) hm
 unfold Jt Lz
 simp only [Ae, Af, Ad, Ah, A9, decide_true]
 rw [Ak (by omega), Ak (by omega), A0, A0, A0, e _ (by simp)]
 rfl
theorem Alx (d : List YOp × Unit) (h : d.1.length + A7 Bv d.1 ≤ 4294967296) : V0 d d = some (true, ()) := by
 have e := Zd (B := G7) (l := d.1) (fun i x hx hi => by
  unfold G7
  simp only [Ae, Af, Ad, Ah, A9, Cd hi, Ax, A5 hx, Ag, C8, Al]
  have hx2 := Nk (f := Bv) hx
  rw [Aqg x (by first | omega | (simp only [Bv] at *; omega)), Ag]
  try simp only [Bool.not_true, Al]
  rw [w64 (by omega)]) (by
  unfold G7
  simp only [Ae, Af, Ad, Ah, A9, Cp, Al])
 unfold V0 L5
 simp only [Ae, Af, Ad, Ah, A9, C8, Al]
 rw [e]
 rfl
theorem Acl (d : List YOp × Unit) (k : Int) (h0 : 0 ≤ k) (h1 : k + (A7 Ms d.1 : Nat) ≤ 4611686018427387904) : Qn d (k, ()) = some ((k + (A7 Ms d.1 : Nat), ()), (mkL Awd Ms d.1 k, ())) := by
 have hl := I6 (w := Ms) (fun x => by simp only [Ms]; omega) d.1
 have e := Px (B := Fb) Awd Ms (l := d.1) (fun t k i x ht hx hlen h0 h1 hi => by
  have hit : i < t.length := by omega
  have hw : Ms x = 1 + 1 + 1 + A7 w_B x.2.2.2.1 := rfl
  have hk : k + ((Ms x : Nat) : Int) = k + 1 + 1 + 1 + (A7 w_B x.2.2.2.1 : Nat) := by simp only [Ms]; all_goals omega
  rw [hk]
  unfold Fb
  simp (maxSteps := 4000000) only [Ae, Af, Ad, Ah, A9, Cd hit, Ax, A5 ht, Ag, Int.toNat_natCast]
  simp (maxSteps := 4000000) (disch := first | omega | (dsimp only; omega) | (simp only [List.length_set]; omega)) only [w64, Zb, List.set_set, Ag, Int.toNat_natCast, A0, Ak, M9]
  rfl) (fun t k hlen => by
  unfold Fb
  exact (Ae _ _ _).trans ((Ew (by simp [hlen])).trans rfl)) h0 h1
 unfold Qn I3
 simp only [Ae, Af, Ad, Ah, A9]
 rw [e]
 rfl
theorem Ave (d : Je) : My d = some d := by
 have hn : H6 d = 0 := rfl
 unfold My Sz
 simp only [Ae, Af, Ad, Ah, A9]
 skip
 all_goals rfl
theorem Avf (d : Je) : M6 d d = some (true, ()) := by
 have hn : H6 d = 0 := rfl
 unfold M6 Ti
 simp (disch := first | omega | (simp only [H6, Bv]; omega)) only [Ae, Af, Ad, Ah, A9, C8, beq_self_eq_true, Al, Ag, Bool.not_true, Oz, Aqg, Alx]
theorem Avg (d : Az) (n : Int) (h0 : -1 ≤ n) (h1 : n ≤ 1099511627776) (hl : Jz d) : Sy d (n, ()) = some (szR (Br d) n, ()) := by
 unfold Jz at hl
 skip
 unfold Sy Sx
 simp only [Ae, Af, Ad, Ah, A9]
 simp (disch := first | omega | (dsimp only; omega) | exact Ae9 _ _ | exact Xg (by omega) (by omega) | ((repeat' (first | assumption | apply And.intro)); done) | ((first | unfold Jz | unfold M8 | unfold Avd); dsimp only; (repeat' (first | assumption | apply And.intro)); done)) only [Acj, Au2, Ar5, Ag, J0]
 all_goals try simp (disch := first | omega | (simp only [Br, Bv, H6]; omega)) only [Awf]
 all_goals (first | rfl | (refine congrArg (fun t => some (szR t n, ())) ?_; simp only [Br, Bv, H6]; omega))
theorem Avh (d : Az) (h : Br d ≤ 4294967296) : S2 d = some d := by
 have hn : Br d = d.2.2.2.2.1.length := rfl
 unfold S2 S1
 simp only [Ae, Af, Ad, Ah, A9]
 simp (disch := first | omega | (simp only [Br, Bv, H6]; omega)) only [Ack, Au3, Ar6, Ave, Ag]
 all_goals rfl
theorem Avi (d : Az) (h : Br d ≤ 4294967296) : Tk d d = some (true, ()) := by
 have hn : Br d = d.2.2.2.2.1.length := rfl
 unfold Tk Tj
 simp (disch := first | omega | (simp only [Br, Bv, H6]; omega)) only [Ae, Af, Ad, Ah, A9, C8, beq_self_eq_true, Al, Ag, Bool.not_true, Oz, Aqg, Alx, Avf]
theorem Atr (d : List Az × Unit) (n : Int) (h0 : -1 ≤ n) (h1 : n ≤ 1099511627776) (hl : d.1.length ≤ 9223372036854775807 ∧ (∀ (i : Nat) x, d.1[i]? = some x → Jz x)) : Qc d (n, ()) = some (szR (d.1.length + A7 Br d.1) n, ()) := by
 obtain ⟨hl1, hl2⟩ := hl
 unfold Qc Iw
 simp only [Ae, Af, Ad, Ah, A9]
 rw [w64 (by omega)]
 by_cases h : (d.1.length : Int) ≤ n
 ·rw [A2 (by omega), Al, Ahj Br (l := d.1) (fun n' i x hx hi h0' h1' => by
    have hlx := hl2 i x hx
    unfold Gv
    simp only [Ae, Af, Ad, Ah, A9, Cd hi, Ax, A5 hx, Ag]
    rw [Avg x n' h0' h1' (by exact hlx), Ag]
    rw [w64 (by omega)]) (fun n' => by
    unfold Gv
    simp only [Ae, Af, Ad, Ah, A9, Cp, Al]) (by omega) (by omega), ← J0]
  unfold szR
  rw [if_pos h]
 ·rw [Ak (by omega), Ax]
  unfold szR
  rw [if_neg (by omega)]
theorem Ats (d : List Az × Unit) (h : d.1.length + A7 Br d.1 ≤ 4294967296) : G6 d = some d := by
 have e := fun (m : List Az) (hm : m.length = d.1.length) => Zc (B := E4) (m := m) (l := d.1) (ok := fun _ => True) (fun m i x y hx hi hy => by
  unfold E4
  simp only [Ae, Af, Ad, Ah, A9, Cd hi, Ax, A5 hx, A5 hy, Ag, Int.toNat_natCast]
  have hx2 := Nk (f := Br) hx
  rw [Avh x (by first | omega | (simp only [Br] at *; omega)), Ag]
  try simp only [A5 hy, Ag, Int.toNat_natCast]
  rw [w64 (by omega)]) (fun m => by
  unfold E4
  simp only [Ae, Af, Ad, Ah, A9, Cp, Al]) hm
 unfold G6 Iz
 simp only [Ae, Af, Ad, Ah, A9, decide_true]
 rw [Ak (by omega), Ak (by omega), A0, A0, A0, e _ (by simp)]
 rfl
theorem Att (d : List Az × Unit) (h : d.1.length + A7 Br d.1 ≤ 4294967296) : Qm d d = some (true, ()) := by
 have e := Zd (B := E9) (l := d.1) (fun i x hx hi => by
  unfold E9
  simp only [Ae, Af, Ad, Ah, A9, Cd hi, Ax, A5 hx, Ag, C8, Al]
  have hx2 := Nk (f := Br) hx
  rw [Avi x (by first | omega | (simp only [Br] at *; omega)), Ag]
  try simp only [Bool.not_true, Al]
  rw [w64 (by omega)]) (by
  unfold E9
  simp only [Ae, Af, Ad, Ah, A9, Cp, Al])
 unfold Qm I2
 simp only [Ae, Af, Ad, Ah, A9, C8, Al]
 rw [e]
 rfl
theorem Afa (d : List Az × Unit) (k : Int) (h0 : 0 ≤ k) (h1 : k + (A7 G3 d.1 : Nat) ≤ 4611686018427387904) : Mh d (k, ()) = some ((k + (A7 G3 d.1 : Nat), ()), (mkL Ar2 G3 d.1 k, ())) := by
 have hl := I6 (w := G3) (fun x => by simp only [G3]; omega) d.1
 have e := Px (B := Ds) Ar2 G3 (l := d.1) (fun t k i x ht hx hlen h0 h1 hi => by
  have hit : i < t.length := by omega
  have hw : G3 x = 1 + 1 + 1 + 1 + A7 w_B x.2.2.2.2.1 := rfl
  have hk : k + ((G3 x : Nat) : Int) = k + 1 + 1 + 1 + 1 + (A7 w_B x.2.2.2.2.1 : Nat) := by simp only [G3]; all_goals omega
  rw [hk]
  unfold Ds
  simp (maxSteps := 4000000) only [Ae, Af, Ad, Ah, A9, Cd hit, Ax, A5 ht, Ag, Int.toNat_natCast]
  simp (maxSteps := 4000000) (disch := first | omega | (dsimp only; omega) | (simp only [List.length_set]; omega)) only [w64, Zb, List.set_set, Ag, Int.toNat_natCast, A0, Ak, M9, Acl]
  rfl) (fun t k hlen => by
  unfold Ds
  exact (Ae _ _ _).trans ((Ew (by simp [hlen])).trans rfl)) h0 h1
 unfold Mh Gy
 simp only [Ae, Af, Ad, Ah, A9]
 rw [e]
 rfl
theorem Ar7 (d : List YBs × Unit) (n : Int) (h0 : -1 ≤ n) (h1 : n ≤ 1099511627776) (hl : d.1.length ≤ 9223372036854775807 ∧ (∀ (i : Nat) x, d.1[i]? = some x → Ae8 x)) : Nq d (n, ()) = some (szR (d.1.length + A7 Dk d.1) n, ()) := by
 obtain ⟨hl1, hl2⟩ := hl
 unfold Nq Hk
 simp only [Ae, Af, Ad, Ah, A9]
 rw [w64 (by omega)]
 by_cases h : (d.1.length : Int) ≤ n
 ·rw [A2 (by omega), Al, Ahj Dk (l := d.1) (fun n' i x hx hi h0' h1' => by
    have hlx := hl2 i x hx
    unfold Fu
    simp only [Ae, Af, Ad, Ah, A9, Cd hi, Ax, A5 hx, Ag]
    rw [Acj x n' h0' h1' (by exact hlx), Ag]
    simp only [Dk]
    rw [w64 (by omega)]
    rfl) (fun n' => by
    unfold Fu
    simp only [Ae, Af, Ad, Ah, A9, Cp, Al]) (by omega) (by omega), ← J0]
  unfold szR
  rw [if_pos h]
 ·rw [Ak (by omega), Ax]
  unfold szR
  rw [if_neg (by omega)]
theorem Ar8 (d : List YBs × Unit) (h : d.1.length + A7 Dk d.1 ≤ 4294967296) : Fv d = some d := by
 have e := fun (m : List YBs) (hm : m.length = d.1.length) => Zc (B := Eb) (m := m) (l := d.1) (ok := fun _ => True) (fun m i x y hx hi hy => by
  unfold Eb
  simp only [Ae, Af, Ad, Ah, A9, Cd hi, Ax, A5 hx, A5 hy, Ag, Int.toNat_natCast]
  have hx2 := Nk (f := Dk) hx
  rw [Ack x (by first | omega | (simp only [Dk] at *; omega)), Ag]
  try simp only [A5 hy, Ag, Int.toNat_natCast]
  rw [w64 (by omega)]) (fun m => by
  unfold Eb
  simp only [Ae, Af, Ad, Ah, A9, Cp, Al]) hm
 unfold Fv Hl
 simp only [Ae, Af, Ad, Ah, A9, decide_true]
 rw [Ak (by omega), Ak (by omega), A0, A0, A0, e _ (by simp)]
 rfl
theorem Ar9 (d : List YBs × Unit) (h : d.1.length + A7 Dk d.1 ≤ 4294967296) : N5 d d = some (true, ()) := by
 have e := Zd (B := Eh) (l := d.1) (fun i x hx hi => by
  unfold Eh
  simp only [Ae, Af, Ad, Ah, A9, Cd hi, Ax, A5 hx, Ag, C8, Al]
  have hx2 := Nk (f := Dk) hx
  rw [Oz x (by first | omega | (simp only [Dk] at *; omega)), Ag]
  try simp only [Bool.not_true, Al]
  rw [w64 (by omega)]) (by
  unfold Eh
  simp only [Ae, Af, Ad, Ah, A9, Cp, Al])
 unfold N5 Hy
 simp only [Ae, Af, Ad, Ah, A9, C8, Al]
 rw [e]
 rfl
theorem Aoa (d : List YBs × Unit) (k : Int) (h0 : 0 ≤ k) (h1 : k + (A7 Q4 d.1 : Nat) ≤ 4611686018427387904) (hl : d.1.length ≤ 4294967296) : K6 d (k, ()) = some ((k + (A7 Q4 d.1 : Nat), ()), (mkL Awe Q4 d.1 k, ())) := by
 have hl := hl
 have e := Px (B := Di) Awe Q4 (l := d.1) (fun t k i x ht hx hlen h0 h1 hi => by
  have hit : i < t.length := by omega
  have hw : Q4 x = A7 w_B x.1 := rfl
  have hk : k + ((Q4 x : Nat) : Int) = k + (A7 w_B x.1 : Nat) := by simp only [Q4]; all_goals omega
  rw [hk]
  unfold Di
  simp (maxSteps := 4000000) only [Ae, Af, Ad, Ah, A9, Cd hit, Ax, A5 ht, Ag, Int.toNat_natCast]
  simp (maxSteps := 4000000) (disch := first | omega | (dsimp only; omega) | (simp only [List.length_set]; omega)) only [w64, Zb, List.set_set, Ag, Int.toNat_natCast, A0, Ak, M9, Acl, Afa]
  rfl) (fun t k hlen => by
  unfold Di
  exact (Ae _ _ _).trans ((Ew (by simp [hlen])).trans rfl)) h0 h1
 unfold K6 Fx
 simp only [Ae, Af, Ad, Ah, A9]
 rw [e]
 rfl
theorem Axf (d : YOp) (h : Ey [.int .i64, .int .i64, .int .i64, .sl 5 [.int .u8]] d) : M8 d := by
 simp only [Ey, wfD] at h
 unfold M8
 exact ml h.2.2.2.1.1
theorem Axg (d : List YOp × Unit) (h : Ey [.sl 92 [.int .i64, .int .i64, .int .i64, .sl 5 [.int .u8]]] d) : d.1.length ≤ 9223372036854775807 ∧ (∀ (i : Nat) x, d.1[i]? = some x → M8 x) := by
 have h1 := h.1
 simp only [wfD] at h1
 exact ⟨ml h1.1, fun i x hx => Axf x (h1.2 i x hx)⟩
theorem Axh (d : Az) (h : Ey [.int .i64, .int .i64, .int .i64, .int .i64, .sl 5 [.int .u8]] d) : Jz d := by
 simp only [Ey, wfD] at h
 unfold Jz
 exact ml h.2.2.2.2.1.1
theorem Axi (d : List Az × Unit) (h : Ey [.sl 96 [.int .i64, .int .i64, .int .i64, .int .i64, .sl 5 [.int .u8]]] d) : d.1.length ≤ 9223372036854775807 ∧ (∀ (i : Nat) x, d.1[i]? = some x → Jz x) := by
 have h1 := h.1
 simp only [wfD] at h1
 exact ⟨ml h1.1, fun i x hx => Axh x (h1.2 i x hx)⟩
theorem Axj (d : YBs) (h : Ey [.sl 5 [.int .u8]] d) : Ae8 d := by
 simp only [Ey, wfD] at h
 unfold Ae8
 exact ml h.1.1
theorem Axk (d : List YBs × Unit) (h : Ey [.sl 22 [.sl 5 [.int .u8]]] d) : d.1.length ≤ 9223372036854775807 ∧ (∀ (i : Nat) x, d.1[i]? = some x → Ae8 x) := by
 have h1 := h.1
 simp only [wfD] at h1
 exact ⟨ml h1.1, fun i x hx => Axj x (h1.2 i x hx)⟩
end
end Go.Proofs.Ytggdikabbngbaaa

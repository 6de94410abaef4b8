/-
  That the program and the reference answer alike, in plain terms, and that the laws answer true.
-/
import Derived.Test.YtggdikabbngbaaaGreatL31
namespace Go.Proofs.YtggdikabbngbaaaGreat
open Go.RowKit
set_option linter.unusedVariables false
set_option linter.unusedSimpArgs false
set_option maxRecDepth 100000
set_option maxHeartbeats 4000000
noncomputable section
theorem A5e : Fp (List.replicate 32 ((0 : Int), ())) := ⟨rfl, fun q x hx => by
 rw [List.getElem?_replicate] at hx
 split at hx
 ·simp only [Option.some.injEq] at hx; subst hx; exact ⟨by decide, by decide⟩
 ·cases hx⟩
theorem Bm6 (r : Nat) : Tg (List.replicate 32 ((0 : Int), ())) r = false := by
 unfold Tg
 rw [List.getElem?_replicate]
 split <;> simp
theorem Bji : Jl A1h = true := by
 unfold Jl
 simp only [Bool.and_eq_true]
 refine ⟨by decide, ⟨Aaa.2 fun q x hx => by have := A5e.2 q x hx; omega, by rfl⟩, Ahc.2 fun i hi => ?_, by rfl⟩
 rw [Aal (w := A1h) A5e (by show (0 : Int) ≤ -1 + 1 + (i : Nat); omega)]
 exact Bm6 _
def Bai (n : Int) (k : List YB) : YEp := (n, k, (0 : Int), (-1 : Int), List.replicate 32 ((0 : Int), ()), ())
theorem Bjj {n : Int} {k : List YB} (hn : 0 ≤ n ∧ n ≤ 4294967295) (hk : k.length = 32) : Ep (Bai n k) = true := by
 unfold Ep
 simp only [Bool.and_eq_true]
 exact ⟨Bv.2 hn, by show ((k.length : Int) == 32) = true; rw [hk]; rfl, (show inR 0 0 281474976710656 = true by decide), Bji⟩
theorem Bjk (n : Int) (k : List YB) (hn : 0 ≤ n ∧ n ≤ 4294967295) (hk : k.length = 32) : Mf (n, ()) (k, ()) = some (Bai n k) ∧ Kh (n, ()) (k, ()) = some (Bai n k) := by
 have q : ((k.length : Int) != 32) = false := by simp [hk]
 have r : inR n 0 4294967295 = true := Bv.2 hn
 unfold Mf Ad0 Kh Uh
 simp only [Ah, Ak, Ae, Am, Cq, C6, Al, Axi, Axj, List.nil_append, List.length_nil, Nat.zero_add, r, Bool.not_true, Ap, q]
 rw [Cz _ (by dsimp only; omega), Ao (by omega)]
 exact ⟨rfl, rfl⟩
def Adm (r : Int) (sn k : List YB) : Ag := (r, sn, (0 : Int), k, (0 : Int), (-1 : Int), List.replicate 32 ((0 : Int), ()), (0 : Int), [], (0 : Int), (0 : Int), [], false, (0 : Int), [], ())
theorem Ave (r : Int) (sn k : List YB) (hr : r = 0 ∨ r = 1) (hs : sn.length = 12) (hk : k.length = 32) : Af7 (r, ()) (sn, ()) (k, ()) = some (Adm r sn k) ∧ Afq (r, ()) (sn, ()) (k, ()) = some (Adm r sn k) := by
 obtain ⟨e1, e2⟩ := Bjk 0 k (by omega) hk
 have q : ((k.length : Int) != 32) = false := by simp [hk]
 have q1 : ((sn.length : Int) == 12) = true := by simp [hs]
 have q2 : ((sn.length : Int) != 12) = false := by simp [hs]
 have q3 : inR r 0 1 = true := Bv.2 (by omega)
 unfold Af7 Af6 Afq Afp
 simp only [Ah, Ak, Ae, Am, Ada, C6, Kj, Al, Ajd, List.nil_append, List.length_nil, Nat.zero_add, q, q1, q2, q3, Bool.not_true, Ap]
 rw [Cz _ (by dsimp only; omega), Ao (by omega), e1, e2]
 exact ⟨rfl, rfl⟩
theorem Bdk {r : Int} {sn k : List YB} (hr : r = 0 ∨ r = 1) (hs : sn.length = 12) (hk : k.length = 32) : By (Adm r sn k) = true := by
 unfold By
 simp only [Bool.not_not, Bool.and_eq_true, Bool.or_eq_true, beq_iff_eq]
 refine ⟨hr, by show (sn.length : Int) = 12; omega, Bjj (n := 0) (by omega) hk, ?_, .inl rfl⟩
 unfold Lx
 rfl
theorem Asf {k l : List YB} (h1 : l.length ≤ 100) (h2 : k.length ≤ 1048576) : (Ix k l).length = 32 := by
 unfold Ix K1
 rw [if_pos ⟨h1, h2⟩]
 exact Tf _ _ h2 (by simp; omega)
def Bo7 : List YB := Qp (Fg [102, 105, 110, 105, 115, 104])
def Bgy : List YB := [((114 : Int), ()), ((111 : Int), ()), ((97 : Int), ()), ((109 : Int), ())]
def D5 (p : List YB) : List YB := bif Ly (p, ()) then Ix (Fm Bgy p) Bo7 else []
theorem Avf (p : List YB) : O9 (p, ()) = some (D5 p, ()) := by
 unfold O9 Vc Tv Tu D5
 simp only [Ah, Ak, Ae, A3e, Al]
 rw [Ar9, Al, Al, Axg _ _ (by decide), Al]
 cases Ly (p, ()) <;> rfl
theorem Avg (p : List YB) : O7 (p, ()) = some (D5 p, ()) := by
 unfold O7 U7 Ts Tr D5
 simp only [Ah, Ak, Ae, A3f, Al]
 rw [Asa, Al, Al, Axh _ _ (by decide), Al]
 cases Ly (p, ()) <;> rfl
theorem Asg (p : List YB) : (D5 p).length = 32 ∨ (D5 p).length = 0 := by
 unfold D5
 cases Ly (p, ()) with
 | false => right; rfl
 | true => exact A1g _ _
theorem Baj {p : List YB} (h : Ly (p, ()) = true) : (D5 p).length = 32 := by
 unfold D5
 rw [h]
 have hl : (Fm Bgy p).length ≤ 32 := by rcases Am1 Bgy p with q | q <;> omega
 exact Asf (by decide) (by omega)
def Hw (id : Int) (cn sn : List YB) (tick : Int) (ck : List YB) : Bool := inR id 1 9 && (((cn.length : Int) == 12) && (((sn.length : Int) == 12) && (inR tick 0 1000000 && ((ck.length : Int) == 16))))
def Dm (id : Int) (cn sn : List YB) (tick : Int) (ck : List YB) : List YB := bif Hw id cn sn tick ck then ((102 : Int), ()) :: (IntKind.u8.wrap id, ()) :: (cn ++ (sn ++ (Fl tick 4 4 ++ ck))) else []
theorem Avh (id : Int) (cn sn : List YB) (tick : Int) (ck : List YB) : La (id, ()) (cn, ()) (sn, ()) (tick, ()) (ck, ()) = some (Dm id cn sn tick ck, ()) := by
 unfold La Vd Dm Hw
 simp only [Ah, Ak, Ae, Cq, Kj, Al, bne]
 cases inR id 1 9 with
 | false => rfl
 | true =>
  cases h1 : ((cn.length : Int) == 12) with
  | false => rfl
  | true =>
   cases h2 : ((sn.length : Int) == 12) with
   | false => rfl
   | true =>
    cases inR tick 0 1000000 with
    | false => rfl
    | true =>
     cases h3 : ((ck.length : Int) == 16) with
     | false => rfl
     | true =>
      have k1 : (cn.length : Int) = 12 := by simpa using h1
      have k2 : (sn.length : Int) = 12 := by simpa using h2
      have k3 : (ck.length : Int) = 16 := by simpa using h3
      simp only [Bool.not_true, Ap, Bool.and_true, cond_true]
      rw [Atd _ _ (by simp), Al, Jh _ (by simp [cat, Hq]; omega) (by simp), Al]
      simp [cat]
theorem Avi (id : Int) (cn sn : List YB) (tick : Int) (ck : List YB) : K8 (id, ()) (cn, ()) (sn, ()) (tick, ()) (ck, ()) = some (Dm id cn sn tick ck, ()) := by
 unfold K8 U8 Dm Hw
 simp only [Ah, Ak, Ae, Am, C6, Al, bne]
 cases inR id 1 9 with
 | false => rfl
 | true =>
  cases h1 : ((cn.length : Int) == 12) with
  | false => rfl
  | true =>
   cases h2 : ((sn.length : Int) == 12) with
   | false => rfl
   | true =>
    cases inR tick 0 1000000 with
    | false => rfl
    | true =>
     cases h3 : ((ck.length : Int) == 16) with
     | false => rfl
     | true =>
      have k1 : (cn.length : Int) = 12 := by simpa using h1
      have k2 : (sn.length : Int) = 12 := by simpa using h2
      have k3 : (ck.length : Int) = 16 := by simpa using h3
      simp only [Bool.not_true, Ap, Bool.and_true, cond_true]
      rw [Ao (by simp; omega), A8, Ao (by simp; omega), A8, Aak _ _ (by simp; omega), Al]
      simp only
      rw [Ao (by simp [Hq]; omega), A8]
      simp
theorem V4 {id : Int} {cn sn : List YB} {tick : Int} {ck : List YB} : (Dm id cn sn tick ck).length = bif Hw id cn sn tick ck then 46 else 0 := by
 unfold Dm
 cases h : Hw id cn sn tick ck with
 | false => rfl
 | true =>
  unfold Hw at h
  simp only [Bool.and_eq_true, beq_iff_eq] at h
  simp [Hq]; omega
def Rp (p : List YB) (id : Int) (cn sn : List YB) (tick : Int) (ck : List YB) : List YB := if (D5 p).length = 0 ∨ (Dm id cn sn tick ck).length = 0 then [] else V3 (D5 p) (Dm id cn sn tick ck)
theorem A5f (p : List YB) (id : Int) (cn sn : List YB) (tick : Int) (ck : List YB) : (Rp p id cn sn tick ck).length ≤ 16 := by
 unfold Rp
 split
 ·simp
 ·exact Bed _ _
theorem Bm7 (p : List YB) (id : Int) (cn sn : List YB) (tick : Int) (ck : List YB) : Apd (p, ()) (id, ()) (cn, ()) (sn, ()) (tick, ()) (ck, ()) = some (Rp p id cn sn tick ck, ()) := by
 unfold Apd Apc Rp
 simp only [Ah, Ak, Ae, Avf, Avh, Bgh, Al]
 by_cases h1 : (D5 p).length = 0
 ·rw [Dq (by simp [h1]), if_pos (.inl h1)]
 ·rw [Cg (by simp; exact fun e => h1 (by simp [e]))]
  by_cases h2 : (Dm id cn sn tick ck).length = 0
  ·rw [Dq (by simp [h2]), if_pos (.inr h2)]
  ·rw [Cg (by simp; exact fun e => h2 (by simp [e])), if_neg (by rintro (q | q); exact h1 q; exact h2 q)]
theorem Bm8 (p : List YB) (id : Int) (cn sn : List YB) (tick : Int) (ck : List YB) : Ao6 (p, ()) (id, ()) (cn, ()) (sn, ()) (tick, ()) (ck, ()) = some (Rp p id cn sn tick ck, ()) := by
 unfold Ao6 Ao5 Rp
 simp only [Ah, Ak, Ae, Avg, Avi, Bgi, Al]
 by_cases h1 : (D5 p).length = 0
 ·rw [Dq (by simp [h1]), if_pos (.inl h1)]
 ·rw [Cg (by simp; exact fun e => h1 (by simp [e]))]
  by_cases h2 : (Dm id cn sn tick ck).length = 0
  ·rw [Dq (by simp [h2]), if_pos (.inr h2)]
  ·rw [Cg (by simp; exact fun e => h2 (by simp [e])), if_neg (by rintro (q | q); exact h1 q; exact h2 q)]
theorem Bjl {p : List YB} {id : Int} {cn sn : List YB} {tick : Int} {ck : List YB} (h1 : Ly (p, ()) = true) (h2 : Hw id cn sn tick ck = true) : (Rp p id cn sn tick ck).length = 16 := by
 have k1 := Baj h1
 have k2 := V4 (id := id) (cn := cn) (sn := sn) (tick := tick) (ck := ck)
 rw [h2] at k2
 have k2 : (Dm id cn sn tick ck).length = 46 := k2
 unfold Rp
 rw [if_neg (by omega)]
 exact Bek (by omega) (by omega)
theorem Adn {f : Aa} (h : Cd f = true) (hk : f.1 = 2) : f.2.2.1.length = 12 ∧ f.2.2.2.1.length = 12 ∧ (0 ≤ f.2.2.2.2.1 ∧ f.2.2.2.2.1 ≤ 1000000) ∧ f.2.2.2.2.2.1.length = 16 ∧ f.2.1 = 0 ∧ f.2.2.2.2.2.2.1.length = 0 ∧ f.2.2.2.2.2.2.2.1 = 0 ∧ f.2.2.2.2.2.2.2.2.1 = 0 ∧ f.2.2.2.2.2.2.2.2.2.1.length = 0 ∧ f.2.2.2.2.2.2.2.2.2.2.1.length = 0 := by
 unfold Cd at h
 rw [hk] at h
 simp only [show inR 2 4 8 = false by decide, cond_false, show ((2 : Int) == 1) = false by decide, show ((2 : Int) == 2) = true by decide, cond_true, Bool.and_eq_true, beq_iff_eq, Bv] at h
 omega
def Da (p : List YB) (id : Int) (f : Aa) : Aa := ((3 : Int), id, f.2.2.1, f.2.2.2.1, f.2.2.2.2.1, f.2.2.2.2.2.1, Rp p id f.2.2.1 f.2.2.2.1 f.2.2.2.2.1 f.2.2.2.2.2.1, (0 : Int), (0 : Int), [], [], ())
theorem Aor (p : List YB) (id : Int) (f : Aa) (h1 : Ly (p, ()) = true) (h2 : 1 ≤ id ∧ id ≤ 9) (h3 : Cd f = true) (h4 : f.1 = 2) : Abt (p, ()) (id, ()) f = some (Da p id f, (true, ())) ∧ Aa1 (p, ()) (id, ()) f = some (Da p id f, (true, ())) ∧ Cd (Da p id f) = true := by
 obtain ⟨a1, a2, a3, a4, a5, a6, a7, a8, a9, a10⟩ := Adn h3 h4
 have hp : Hw id f.2.2.1 f.2.2.2.1 f.2.2.2.2.1 f.2.2.2.2.2.1 = true := by
  unfold Hw
  simp only [Bool.and_eq_true, beq_iff_eq, Bv]
  omega
 have h16 := Bjl h1 hp
 refine ⟨?_, ?_, ?_⟩
 ·unfold Abt Abs
  simp only [Ah, Ak, Ae, Pz, Bm7, Al, h3, h4, Bool.not_true, Ap]
  rw [Cg (by rfl), Cg (by simp; intro e; rw [e] at h16; cases h16)]
  simp (disch := first | omega | (dsimp only; omega)) only [Cz, Al]
  rfl
 ·unfold Aa1 Aa0
  simp only [Ah, Ak, Ae, Py, Bm8, Al, h3, h4, Bool.not_true, Ap]
  rw [Cg (by rfl), Cg (by simp; intro e; rw [e] at h16; cases h16), Axk f (by simp only [An]; omega)]
  simp only [Al]
  rw [List.eq_nil_of_length_eq_zero a9, List.eq_nil_of_length_eq_zero a10, a7, a8]
  rfl
 ·unfold Cd Da
  simp only [show inR 3 4 8 = false by decide, cond_false, show ((3 : Int) == 1) = false by decide, show ((3 : Int) == 2) = false by decide, show ((3 : Int) == 3) = true by decide, List.length_nil]
  simp only [Bool.and_eq_true, beq_iff_eq, Bv, h16, true_and]
  omega
def Atg (l : List YB) (n : Int) : Bool := ((l.length : Int) == 0) || ((l.length : Int) == n)
def J9 (n : Af) : Bool := inR n.1 1 17 && (inR n.2.1 0 9 && (inR n.2.2.1 0 1 && (inR n.2.2.2.2.2.1 0 4294967295 && (inR n.2.2.2.2.2.2.1 0 281474976710655 && (inR n.2.2.2.2.2.2.2.2.2.2.2.1 0 1000000 &&
 (Atg n.2.2.2.1 12 && (Atg n.2.2.2.2.1 12 && (decide ((n.2.2.2.2.2.2.2.1.length : Int) ≤ 100) && (Atg n.2.2.2.2.2.2.2.2.1 32 && Rk (n.2.2.2.2.2.2.2.2.2.1, n.2.2.2.2.2.2.2.2.2.2.1, ()))))))))))
theorem K3 {n : Af} : J9 n = true ↔ (1 ≤ n.1 ∧ n.1 ≤ 17) ∧ (0 ≤ n.2.1 ∧ n.2.1 ≤ 9) ∧ (0 ≤ n.2.2.1 ∧ n.2.2.1 ≤ 1) ∧ (0 ≤ n.2.2.2.2.2.1 ∧ n.2.2.2.2.2.1 ≤ 4294967295) ∧ (0 ≤ n.2.2.2.2.2.2.1 ∧ n.2.2.2.2.2.2.1 ≤ 281474976710655) ∧ (0 ≤ n.2.2.2.2.2.2.2.2.2.2.2.1 ∧ n.2.2.2.2.2.2.2.2.2.2.2.1 ≤ 1000000) ∧
  (n.2.2.2.1.length = 0 ∨ n.2.2.2.1.length = 12) ∧ (n.2.2.2.2.1.length = 0 ∨ n.2.2.2.2.1.length = 12) ∧ n.2.2.2.2.2.2.2.1.length ≤ 100 ∧ (n.2.2.2.2.2.2.2.2.1.length = 0 ∨ n.2.2.2.2.2.2.2.2.1.length = 32) ∧ Rk (n.2.2.2.2.2.2.2.2.2.1, n.2.2.2.2.2.2.2.2.2.2.1, ()) = true := by
 unfold J9 Atg
 simp only [Bool.and_eq_true, Bool.or_eq_true, beq_iff_eq, Bv, decide_eq_true_eq]
 constructor
 ·rintro ⟨a, b, c, d, e, f, g, h, i, j, k⟩
  exact ⟨a, b, c, d, e, f, by omega, by omega, by omega, by omega, k⟩
 ·rintro ⟨a, b, c, d, e, f, g, h, i, j, k⟩
  exact ⟨a, b, c, d, e, f, by omega, by omega, by omega, by omega, k⟩
theorem Ana : Rk ((0 : Int), (0 : Int), ()) = true := by decide
theorem Ahe (r : Int) (f : Aa) : (Dv r f).length ≤ 65 := by
 have hh := Kl r f.2.2.2.1 f.2.2.2.2.2.2.2.1 f.2.2.2.2.2.2.2.2.1
 have hle : (Cy r f.2.2.2.1 f.2.2.2.2.2.2.2.1 f.2.2.2.2.2.2.2.2.1).length ≤ 23 := by rw [hh]; cases Em r f.2.2.2.1 f.2.2.2.2.2.2.2.1 f.2.2.2.2.2.2.2.2.1 <;> simp
 unfold Dv
 cases h : (inR r 0 1 && (Cd f && inR f.1 4 8)) with
 | false => simp
 | true =>
  simp only [Bool.and_eq_true] at h
  have := Am8 h.2.1 h.2.2
  simp; omega
theorem Bak {k b : List YB} (h1 : k.length = 0 ∨ k.length = 32) (h2 : b.length ≤ 100) : J9 (T8 k b) = true := by
 rw [K3]
 simp only [T8, List.length_nil]
 exact ⟨by omega, by omega, by omega, by omega, by omega, by omega, .inl trivial, .inl trivial, h2, h1, Ana⟩
theorem Bla {k s b : List YB} (h1 : k.length = 0 ∨ k.length = 32) (h2 : s.length = 0 ∨ s.length = 12) (h3 : b.length ≤ 100) : J9 (Am9 k s b) = true := by
 rw [K3]
 simp only [Am9, List.length_nil]
 exact ⟨by omega, by omega, by omega, by omega, by omega, by omega, .inl trivial, h2, h3, h1, Ana⟩
theorem Blb {c : Ag} {f : Aa} (h : By c = true) : J9 (Aex c f) = true :=
 Bak (.inr (Eh (Hv h).2.2.1).2.1) (Nat.le_trans (Ahe _ _) (by omega))
def Fq (l : List Af) : Prop := ∀ n ∈ l, J9 n = true
def Axm (l : List Aa) : Prop := ∀ f ∈ l, Cd f = true
end
end Go.Proofs.YtggdikabbngbaaaGreat

/-
  That the program and the reference answer alike, in plain terms, and that the laws answer true.
-/
import Derived.Test.YtggdikabbngbaaaGreatL9
namespace Go.Proofs.YtggdikabbngbaaaGreat
open Go.RowKit
set_option linter.unusedVariables false
set_option linter.unusedSimpArgs false
set_option maxHeartbeats 4000000
noncomputable section
theorem Bo4 (b : List YB) (h : b.length ≤ 1048576) : (sha b).length = 32 := by
 unfold sha
 rw [if_pos h, Alt, (Aho _ D7 _ (Nat.le_refl _) (by decide)).2.1]; rfl
theorem Ahp (b : List YB) : (sha b).length ≤ 32 := by rcases Bfu b with h | h <;> omega
def Arn (k : List YB) : List YB := k ++ List.replicate (64 - k.length) ((0 : Int), ())
def D8 (k : List YB) : List YB := Arn (if k.length > 64 then sha k else k)
theorem As1 (k : List YB) (h : k.length ≤ 64) : Ay Ea (k, ()) = some (Arn k, ()) := by
 have hr := Da (B := Ea) (64 - k.length) (fun i => (k ++ List.replicate i ((0 : Int), ()), ())) (Arn k, ())
  (fun i hi => by
   unfold Ea
   simp only [Ae, Ai, Ab]
   rw [Ao (by simp; omega), A3, Ao (by simp; omega), A8, List.append_assoc, ← List.replicate_succ'])
  (by
   unfold Ea
   simp only [Ae, Ai, Ab]
   rw [Bm (by simp; omega), An]; rfl)
 simpa using hr
theorem Bhu (k : List YB) (h : k.length ≤ 64) : (Arn k).length = 64 := by unfold Arn; simp; omega
theorem Abt (k : List YB) : (D8 k).length = 64 := by
 unfold D8
 refine Bhu _ ?_
 split
 ·have := Ahp k; omega
 ·omega
theorem Bhv (k : List YB) (h : k.length ≤ 1048576) : Aaf (k, ()) = some (D8 k, ()) := by
 unfold Aaf Ni D8
 simp only [Ae, Ag, Ab]
 rw [Bm (by omega), An, Dn _ (by dsimp only; omega), Ah]
 by_cases h1 : k.length > 64
 ·have := Ahp k
  rw [Ao (by omega), A3, Bht _ (by omega), Ah, As1 _ (by omega), if_pos h1]; rfl
 ·rw [Bm (by omega), An, As1 _ (by omega), if_neg h1]; rfl
theorem Bhw (k : List YB) (h : k.length ≤ 1048576) : Zx (k, ()) = some (D8 k, ()) := by
 unfold Zx M7 D8
 simp only [Ae, Ag, Ab, Ai, List.nil_append, List.length_nil, Nat.zero_add]
 rw [Bm (by omega), An, Ao (by omega), A8, show J8 = Ea from rfl]
 by_cases h1 : k.length > 64
 ·have := Ahp k
  rw [Ao (by omega), A3, Bhs, Ah, As1 _ (by omega), if_pos h1]; rfl
 ·rw [Bm (by omega), An, As1 _ (by omega), if_neg h1]; rfl
def Axg (x c : Int) : YB := (IntKind.u8.wrap ((BitVec.ofInt (IntKind.u8.bits) x ^^^ BitVec.ofInt (IntKind.u8.bits) c).toNat : Nat), ())
def Dv (k : List YB) (c : Int) : List YB := k.map fun x => Axg x.1 c
theorem F3 (k : List YB) (c : Int) : (Dv k c).length = k.length := by simp [Dv]
theorem Afp (k : List YB) (x : YB) (c : Int) : Dv (k ++ [x]) c = Dv k c ++ [Axg x.1 c] := by simp [Dv]
theorem Ba5 (k : List YB) (c : Int) (h : k.length ≤ 1048576) : Xu (k, ()) (c, ()) = some (Dv k c, ()) := by
 have hr := Da (B := H4) k.length (fun i => (c, Dv (k.take i) c, k, (k.length : Int), (i : Int), ())) (Dv k c, ())
  (fun i hi => by
   have hx := List.getElem?_eq_getElem hi
   unfold H4
   simp only [Ae, Ag, Ab, Ai, Ci hi, A3, Bq hx, Ah]
   rw [Ao (by simp [F3]; omega), A8, w64 (by omega), ← Eu hx, Afp]
   rfl)
  (by unfold H4; simp only [Ae, Ab, C0, An, List.take_length])
 unfold Xu Si
 simp only [Ag, Ab]
 rw [show Ay H4 (c, [], k, (k.length : Int), (0 : Int), ()) = _ from hr]
 rfl
theorem Bn0 (m k : List YB) (h : k.length = 64) : Ay Lg (m, k, [], [], (0 : Int), ()) = some (m, Dv k 54, Dv k 92, ()) := by
 have hr := Da (B := Lg) 64 (fun i => (m, k, Dv (k.take i) 54, Dv (k.take i) 92, (i : Int), ())) (m, Dv k 54, Dv k 92, ())
  (fun i hi => by
   have hx := List.getElem?_eq_getElem (show i < k.length by omega)
   unfold Lg
   simp only [Ae, Ag, Ab, Ai]
   rw [Ao (by omega), A3, Bq hx]
   simp only [Ah]
   rw [Ao (by simp [F3]; omega), A8, Ao (by simp [F3]; omega), A8, w64 (by omega), ← Eu hx, Afp, Afp]
   rfl)
  (by unfold Lg; simp only [Ae, Ab, Ag, Ai]; rw [Bm (by omega), An, ← h, List.take_length])
 exact hr
def Ha (k m : List YB) : List YB := if k.length > 1048576 then [] else if m.length > 1048512 then [] else sha (Dv (D8 k) 92 ++ sha (Dv (D8 k) 54 ++ m))
theorem Ba6 (k m : List YB) : Aag (k, ()) (m, ()) = some (Ha k m, ()) := by
 have hb := Abt k
 unfold Aag Avu Ha
 simp only [Ae, Ag, Ab]
 by_cases h1 : k.length > 1048576
 ·rw [Ao (by omega), A3, if_pos h1]
 rw [Bm (by omega), An, if_neg h1]
 by_cases h2 : m.length > 1048512
 ·rw [Ao (by omega), A3, if_pos h2]
 have hs := Ahp (Dv (D8 k) 54 ++ m)
 rw [Bm (by omega), An, if_neg h2, Bhv _ (by omega), Ah, Ba5 _ _ (by omega), Ah, Ba5 _ _ (by omega), Ah, N8 _ (by simp [cat, F3]; omega) (by simp), Ah,
  show cat [(Dv (D8 k) 54, ()), (m, ())] = Dv (D8 k) 54 ++ m by simp [cat], Bht _ (by simp [F3]; omega), Ah, N8 _ (by simp [cat, F3]; omega) (by simp), Ah,
  show cat [(Dv (D8 k) 92, ()), (sha (Dv (D8 k) 54 ++ m), ())] = Dv (D8 k) 92 ++ sha (Dv (D8 k) 54 ++ m) by simp [cat], Bht _ (by simp [F3]; omega), Ah]
theorem Ba7 (k m : List YB) : Zz (k, ()) (m, ()) = some (Ha k m, ()) := by
 have hb := Abt k
 unfold Zz Zy Ha
 simp only [Ae, Ag, Ab, Ai]
 by_cases h1 : k.length > 1048576
 ·rw [Ao (by omega), A3, if_pos h1]
 rw [Bm (by omega), An, if_neg h1]
 by_cases h2 : m.length > 1048512
 ·rw [Ao (by omega), A3, if_pos h2]
 have hs := Ahp (Dv (D8 k) 54 ++ m)
 rw [Bm (by omega), An, if_neg h2, Bhw _ (by omega), Ah, Bn0 _ _ hb, Ah]
 simp only
 rw [Ao (by simp [F3]; omega), A8, Bhs, Ah, Ao (by simp [F3]; omega), A8, Bhs, Ah]
theorem Ba8 (k m : List YB) : (Ha k m).length = 32 ∨ (Ha k m).length = 0 := by
 unfold Ha
 split
 ·exact .inr rfl
 split
 ·exact .inr rfl
 exact Bfu _
theorem As2 (k m : List YB) (h1 : k.length ≤ 1048576) (h2 : m.length ≤ 1048512) : (Ha k m).length = 32 := by
 have hb := Abt k
 have hs := Ahp (Dv (D8 k) 54 ++ m)
 unfold Ha
 rw [if_neg (by omega), if_neg (by omega)]
 exact Bo4 _ (by simp [F3]; omega)
def Aro (k m : List YB) : List YB := (Ha k m).take 16
theorem Bnh (k m : List YB) : Aso (k, ()) (m, ()) = some (Aro k m, ()) := by
 unfold Aso A2x Aro
 simp only [Ae, Ag, Ab, Ai, Ba6, Ah]
 rcases Ba8 k m with h | h
 ·rw [Dw (by simp [h]), Ao (by omega), A8]
  simp only [show (16 : Int).toNat = 16 from rfl, show (0 : Int).toNat = 0 from rfl, List.drop_zero]
  rw [Dn _ (by simp; omega), Ah]
 ·rw [J3 (by simp [h]), List.eq_nil_of_length_eq_zero h]; rfl
theorem Bni (k m : List YB) : Asl (k, ()) (m, ()) = some (Aro k m, ()) := by
 unfold Asl A2q Aro
 simp only [Ae, Ag, Ab, Ai, Ba7, Ah, List.nil_append, List.length_nil, Nat.zero_add]
 rcases Ba8 k m with h | h
 ·rw [Bm (by omega), An, Ao (by omega), A8]
  simp only [show (16 : Int).toNat = 16 from rfl, show (0 : Int).toNat = 0 from rfl, List.drop_zero]
  rw [Ao (by simp; omega), A8]
 ·rw [Ao (by omega), A3, List.eq_nil_of_length_eq_zero h]; rfl
theorem Bn1 (k m : List YB) : (Aro k m).length ≤ 16 := by unfold Aro; simp; omega
def Rl (k n : List YB) (i : Int) : List YB := if inR i 0 6 = true ∧ n.length ≤ 100 then Ha k ((((115 : Int), ()) :: n) ++ Ft i 4 4) else []
theorem Bj2 (k n : List YB) (i : Int) : Aen (k, ()) (n, ()) (i, ()) = some (Rl k n i, ()) := by
 unfold Aen Aem Rl
 simp only [Ae, Ag, Ab, C9, Ah]
 cases hi : inR i 0 6 with
 | false => simp [br]
 | true =>
  simp only [Bool.not_true, An]
  by_cases hn : n.length ≤ 100
  ·rw [Bm (by omega), An, N8 _ (by simp [cat]; omega) (by simp), Ah, show cat [([((115 : Int), ())], ()), (n, ())] = ((115 : Int), ()) :: n by simp [cat], Asz _ _ (by simp; omega), Ah, Ba6, Ah, if_pos ⟨trivial, hn⟩]
  ·rw [Ao (by omega), A3, if_neg (fun h => hn h.2)]
theorem Bj3 (k n : List YB) (i : Int) : Aec (k, ()) (n, ()) (i, ()) = some (Rl k n i, ()) := by
 unfold Aec Aeb Rl
 simp only [Ae, Ag, Ab, Ai, Dm, Ah]
 cases hi : inR i 0 6 with
 | false => simp [br]
 | true =>
  simp only [Bool.not_true, An]
  by_cases hn : n.length ≤ 100
  ·rw [Bm (by omega), An, Ao (by simp; omega), A8, Zm _ _ (by simp; omega), Ah, Ba7, Ah, if_pos ⟨trivial, hn⟩]; rfl
  ·rw [Ao (by omega), A3, if_neg (fun h => hn h.2)]
theorem Alu (k n : List YB) (i : Int) (h0 : 0 ≤ i) (h1 : i ≤ 6) (hn : n.length ≤ 100) (hk : k.length ≤ 1048576) : (Rl k n i).length = 32 := by
 unfold Rl
 rw [if_pos ⟨C6.2 ⟨h0, h1⟩, hn⟩]
 exact As2 _ _ hk (by simp [Lk]; omega)
def blocks (k n : List YB) (i : Nat) : List YB := (List.range i).flatMap fun (j : Nat) => Rl k n (j : Int)
theorem Afq (k n : List YB) (i : Nat) : blocks k n (i + 1) = blocks k n i ++ Rl k n (i : Int) := by unfold blocks; rw [List.range_succ, List.flatMap_append]; simp
theorem Tj (k n : List YB) (i : Nat) (h : i ≤ 7) (hn : n.length ≤ 100) (hk : k.length ≤ 1048576) : (blocks k n i).length = 32 * i := by
 induction i with
 | zero => rfl
 | succ i ih => rw [Afq, List.length_append, ih (by omega), Alu _ _ _ (by omega) (by omega) hn hk]; omega
def F9 (k n : List YB) (m : Nat) : List YB := (blocks k n ((m + 31) / 32)).take m
theorem A1t (k n : List YB) (m : Nat) (hm : m ≤ 200) (hn : n.length ≤ 100) (hk : k.length ≤ 1048576) : (F9 k n m).length = m := by
 unfold F9
 rw [List.length_take, Tj _ _ _ (by omega) hn hk]; omega
theorem Bl7 (k n : List YB) (m : Nat) (hm : m ≤ 200) (hn : n.length ≤ 100) (hk : k.length ≤ 1048576) : Ajq (k, ()) (n, ()) ((m : Int), ()) = some (F9 k n m, ()) := by
 have hbl := Tj k n ((m + 31) / 32) (by omega) hn hk
 have hr := Da (B := H5) ((m + 31) / 32) (fun i => (k, n, (m : Int), blocks k n i, (i : Int), ())) ((m : Int), blocks k n ((m + 31) / 32), ())
  (fun i hi => by
   have hl := Tj k n i (by omega) hn hk
   have hl2 := Alu k n (i : Int) (by omega) (by omega) hn hk
   unfold H5
   simp only [Ae, Ag, Ab, Ai]
   rw [Ao (by omega), A3, Bj2, Ah, Ao (by dsimp only; omega), A8, w64 (by omega), Afq]
   rfl)
  (by
   unfold H5
   simp only [Ae, Ag, Ab, Ai]
   rw [Bm (by omega), An])
 unfold Ajq Sj
 simp only [Ae, Ag, Ab, Ai, C9, Ah]
 rw [Dw (by simp [inR]; omega), Bm (by omega), An, Bm (by omega), An, show Ay H5 (k, n, (m : Int), [], (0 : Int), ()) = _ from hr, Ah]
 simp only [Int.toNat_natCast, show (0 : Int).toNat = 0 from rfl, List.drop_zero]
 rw [Ao (by omega), A8, Ao (by omega), A8, Dn _ (by simp; omega), Ah]
 rfl
theorem Bl8 (k n : List YB) (m : Nat) (hm : m ≤ 200) (hn : n.length ≤ 100) (hk : k.length ≤ 1048576) : Aiu (k, ()) (n, ()) ((m : Int), ()) = some (F9 k n m, ()) := by
 have hbl := Tj k n ((m + 31) / 32) (by omega) hn hk
 have hr := Da (B := Hu) ((m + 31) / 32) (fun i => (k, n, (m : Int), blocks k n i, (i : Int), ())) ((m : Int), blocks k n ((m + 31) / 32), ())
  (fun i hi => by
   have hl := Tj k n i (by omega) hn hk
   have hl2 := Alu k n (i : Int) (by omega) (by omega) hn hk
   unfold Hu
   simp only [Ae, Ag, Ab, Ai]
   rw [Ao (by omega), A3, Bj3, Ah, Ao (by dsimp only; omega), A8, w64 (by omega), Afq]
   rfl)
  (by
   unfold Hu
   simp only [Ae, Ag, Ab, Ai]
   rw [Bm (by omega), An])
 unfold Aiu R4
 simp only [Ae, Ag, Ab, Ai, Dm, Ah]
 rw [Dw (by simp [inR]; omega), Bm (by omega), An, Bm (by omega), An, show Ay Hu (k, n, (m : Int), [], (0 : Int), ()) = _ from hr, Ah]
 simp only [Int.toNat_natCast, show (0 : Int).toNat = 0 from rfl, List.drop_zero, List.nil_append, List.length_nil, Nat.zero_add]
 rw [Ao (by omega), A8, Ao (by omega), A8, Ao (by simp; omega), A8]
 rfl
def Abu (st p : List YB) (i : Nat) : List YB := (List.range i).map fun j => Axg (st[j]?.getD (0, ())).1 (p[j]?.getD (0, ())).1
theorem A6d (st p : List YB) (i : Nat) : Abu st p (i + 1) = Abu st p i ++ [Axg (st[i]?.getD (0, ())).1 (p[i]?.getD (0, ())).1] := by unfold Abu; rw [List.range_succ, List.map_append]; rfl
theorem Alv (st p : List YB) (i : Nat) : (Abu st p i).length = i := by simp [Abu]
def mix (k n p : List YB) : List YB := if p.length ≤ 200 ∧ n.length ≤ 100 ∧ k.length ≤ 1048576 then Abu (F9 k n p.length) p p.length else []
theorem A1u (k n p : List YB) : (mix k n p).length ≤ p.length := by
 unfold mix
 split
 ·rw [Alv]; exact Nat.le_refl _
 ·simp
theorem Bnj (k n p : List YB) : Asp (k, ()) (n, ()) (p, ()) = some (mix k n p, ()) := by
 unfold Asp Agh mix
 simp only [Ae, Ag, Ab]
 by_cases h1 : p.length ≤ 200
 ·rw [Bm (by omega), An]
  by_cases h2 : n.length ≤ 100
  ·rw [Bm (by omega), An]
   by_cases h3 : k.length ≤ 1048576
   ·have hs := A1t k n p.length h1 h2 h3
    have hr := Da (B := Nj) p.length (fun i => (p, Abu (F9 k n p.length) p i, F9 k n p.length, ((F9 k n p.length).length : Int), (i : Int), ())) (Abu (F9 k n p.length) p p.length, ())
     (fun i hi => by
      have hx := List.getElem?_eq_getElem hi
      have hy := List.getElem?_eq_getElem (show i < (F9 k n p.length).length by omega)
      unfold Nj
      simp only [Ae, Ag, Ab, Ai]
      rw [Ao (by omega), A3, Bq hy, Ah, Bq hx, Ah, Ao (by simp [Alv]; omega), A8, w64 (by omega), A6d, hx, hy]
      rfl)
     (by
      unfold Nj
      simp only [Ae, Ag, Ab, Ai]
      rw [Bm (by omega), An])
    rw [Bm (by omega), An, Bl7 _ _ _ h1 h2 h3, Ah, if_pos ⟨h1, h2, h3⟩]
    simp only
    rw [show Ay Nj (p, [], F9 k n p.length, ((F9 k n p.length).length : Int), (0 : Int), ()) = _ from hr]
    rfl
   ·rw [Ao (by omega), A3, if_neg (by omega)]
  ·rw [Ao (by omega), A3, if_neg (by omega)]
 ·rw [Ao (by omega), A3, if_neg (by omega)]
theorem Bj4 (a b : Int) : Axg a b = Axg b a := by unfold Axg; rw [BitVec.xor_comm]
theorem Bnk (k n p : List YB) : Asm (k, ()) (n, ()) (p, ()) = some (mix k n p, ()) := by
 unfold Asm Af9 mix
 simp only [Ae, Ag, Ab]
 by_cases h1 : p.length ≤ 200
 ·rw [Bm (by omega), An]
  by_cases h2 : n.length ≤ 100
  ·rw [Bm (by omega), An]
   by_cases h3 : k.length ≤ 1048576
   ·have hs := A1t k n p.length h1 h2 h3
    have hr := Da (B := M8) p.length (fun i => (p, Abu (F9 k n p.length) p i, F9 k n p.length, (i : Int), ())) (Abu (F9 k n p.length) p p.length, ())
     (fun i hi => by
      have hx := List.getElem?_eq_getElem hi
      have hy := List.getElem?_eq_getElem (show i < (F9 k n p.length).length by omega)
      unfold M8
      simp only [Ae, Ag, Ab, Ai]
      rw [Ao (by omega), A3, Bq hx, Ah, Bq hy, Ah, Ao (by simp [Alv]; omega), A8, w64 (by omega), A6d, hx, hy]
      rw [Bj4]
      rfl)
     (by
      unfold M8
      simp only [Ae, Ag, Ab, Ai]
      rw [Bm (by omega), An])
    rw [Bm (by omega), An, Bl8 _ _ _ h1 h2 h3, Ah, if_pos ⟨h1, h2, h3⟩]
    simp only
    rw [show Ay M8 (p, [], F9 k n p.length, (0 : Int), ()) = _ from hr]
    rfl
   ·rw [Ao (by omega), A3, if_neg (by omega)]
  ·rw [Ao (by omega), A3, if_neg (by omega)]
 ·rw [Ao (by omega), A3, if_neg (by omega)]
end
end Go.Proofs.YtggdikabbngbaaaGreat

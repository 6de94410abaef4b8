/-
  That the program and the reference answer alike, in plain terms, and that the laws answer true.
-/
import Derived.Test.YtdlcjpjflckdlaaGreatL10
namespace Go.Proofs.YtdlcjpjflckdlaaGreat
open Go.RowKit
set_option linter.unusedVariables false
set_option linter.unusedSimpArgs false
set_option maxHeartbeats 4000000
noncomputable section
/-! ## Sealing -/
def headOk (r : Int) (sn : List YB) (ep seq : Int) : Bool := inR r 0 1 && (((sn.length : Int) == 12) && (inR ep 0 4294967295 && inR seq 0 281474976710655))
def headOf (r : Int) (sn : List YB) (ep seq : Int) : List YB := bif headOk r sn ep seq then (IntKind.u8.wrap r, ()) :: (sn ++ (bytN ep 4 4 ++ bytN seq 6 6)) else []
theorem i_HeadOf (r : Int) (sn : List YB) (ep seq : Int) : V_i_HeadOf (r, ()) (sn, ()) (ep, ()) (seq, ()) = some (headOf r sn ep seq, ()) := by
  unfold V_i_HeadOf T_i_HeadOf headOf headOk
  simp only [val_br, val_ob, val_leaf, i_isRole, i_isNonce, i_within, ob_s, role_in]
  cases inR r 0 1 with
  | false => rfl
  | true =>
    cases hs : ((sn.length : Int) == 12) with
    | false => rfl
    | true =>
      have hs' : sn.length = 12 := by simp at hs; omega
      cases inR ep 0 4294967295 with
      | false => rfl
      | true =>
        cases inR seq 0 281474976710655 with
        | false => rfl
        | true =>
          simp only [Bool.not_true, br_f, Bool.and_true, cond_true]
          rw [i_PutN4 _ _ (by simp), ob_s, i_PutN6 _ _ (by simp), ob_s, i_joined _ (by simp [cat, bytN_len]; omega) (by simp), ob_s]
          simp [cat]
theorem s_HeadOf (r : Int) (sn : List YB) (ep seq : Int) : V_s_HeadOf (r, ()) (sn, ()) (ep, ()) (seq, ()) = some (headOf r sn ep seq, ()) := by
  unfold V_s_HeadOf T_s_HeadOf headOf headOk
  simp only [val_br, val_ob, val_leaf, val_chk, s_l1In, ob_s, bne]
  cases inR r 0 1 with
  | false => rfl
  | true =>
    cases hs : ((sn.length : Int) == 12) with
    | false => rfl
    | true =>
      have hs' : sn.length = 12 := by simp at hs; omega
      cases inR ep 0 4294967295 with
      | false => rfl
      | true =>
        cases inR seq 0 281474976710655 with
        | false => rfl
        | true =>
          simp only [Bool.not_true, br_f, Bool.and_true, cond_true]
          rw [dec_t (by simp; omega), chk_t, s_PutN4 _ _ (by simp; omega), ob_s, s_PutN6 _ _ (by simp [bytN_len]; omega), ob_s]
          simp
theorem headOf_le (r : Int) (sn : List YB) (ep seq : Int) : (headOf r sn ep seq).length = (bif headOk r sn ep seq then 23 else 0) := by
  unfold headOf
  cases h : headOk r sn ep seq with
  | false => rfl
  | true =>
    unfold headOk at h
    simp at h
    have : sn.length = 12 := by omega
    simp [bytN_len, this]
def tagInput (r : Int) (f : YFrame) : List YB := bif inR r 0 1 && (frameOk f && inR f.1 4 8) then ((116 : Int), ()) :: (headOf r f.2.2.2.1 f.2.2.2.2.2.2.2.1 f.2.2.2.2.2.2.2.2.1 ++ ((IntKind.u8.wrap f.1, ()) :: f.2.2.2.2.2.2.2.2.2.1)) else []
theorem i_TagInput (r : Int) (f : YFrame) (h : need_Frame f ≤ 536870912) : V_i_TagInput (r, ()) f = some (tagInput r f, ()) := by
  have hh := headOf_le r f.2.2.2.1 f.2.2.2.2.2.2.2.1 f.2.2.2.2.2.2.2.2.1
  simp only [need_Frame] at h
  unfold V_i_TagInput T_i_TagInput tagInput
  simp only [val_br, val_ob, val_leaf, i_isRole, i_Sealed, i_FrameOk, ob_s, role_in, i_HeadOf]
  cases inR r 0 1 with
  | false => rfl
  | true =>
    cases inR f.1 4 8 with
    | false => cases frameOk f <;> rfl
    | true =>
      cases frameOk f with
      | false => rfl
      | true =>
        have hle : (headOf r f.2.2.2.1 f.2.2.2.2.2.2.2.1 f.2.2.2.2.2.2.2.2.1).length ≤ 23 := by rw [hh]; cases headOk r f.2.2.2.1 f.2.2.2.2.2.2.2.1 f.2.2.2.2.2.2.2.2.1 <;> simp
        simp only [Bool.not_true, br_f, Bool.and_true, cond_true]
        rw [i_joined _ (by simp [cat]; omega) (by simp), ob_s]
        simp [cat]
theorem s_TagInput (r : Int) (f : YFrame) (h : need_Frame f ≤ 536870912) : V_s_TagInput (r, ()) f = some (tagInput r f, ()) := by
  have hh := headOf_le r f.2.2.2.1 f.2.2.2.2.2.2.2.1 f.2.2.2.2.2.2.2.2.1
  simp only [need_Frame] at h
  unfold V_s_TagInput T_s_TagInput tagInput
  simp only [val_br, val_ob, val_leaf, val_chk, s_l1In, s_Sealed, s_FrameOk, ob_s, s_HeadOf]
  cases inR r 0 1 with
  | false => rfl
  | true =>
    cases frameOk f with
    | false => rfl
    | true =>
      cases inR f.1 4 8 with
      | false => rfl
      | true =>
        have hle : (headOf r f.2.2.2.1 f.2.2.2.2.2.2.2.1 f.2.2.2.2.2.2.2.2.1).length ≤ 23 := by rw [hh]; cases headOk r f.2.2.2.1 f.2.2.2.2.2.2.2.1 f.2.2.2.2.2.2.2.2.1 <;> simp
        simp only [Bool.not_true, br_f, Bool.and_true, cond_true]
        rw [dec_t (by simp; omega), chk_t, dec_t (by simp; omega), chk_t, dec_t (by simp; omega), chk_t]
        simp
def zero16 : List YB := List.replicate 16 ((0 : Int), ())
def sealOk (k : List YB) (r : Int) (sn : List YB) (ep seq kind : Int) (p : List YB) : Bool := ((k.length : Int) == 32) && (headOk r sn ep seq && (inR kind 4 8 && bodyOk kind (p.length : Int)))
def noFrame : YFrame := (0, 0, [], [], 0, [], [], 0, 0, [], [], ())
def sealed (k : List YB) (r : Int) (sn : List YB) (ep seq kind : Int) (p : List YB) : YFrame × (Bool × Unit) :=
  bif sealOk k r sn ep seq kind p then ((kind, 0, [], sn, 0, [], [], ep, seq, mix k (headOf r sn ep seq) p, tagF k (tagInput r (kind, 0, [], sn, 0, [], [], ep, seq, mix k (headOf r sn ep seq) p, zero16, ())), ()), (true, ())) else (noFrame, (false, ()))
theorem frame0 (sn : List YB) (ep seq kind : Int) (p : List YB) (hk : inR kind 4 8 = true) : frameOk (kind, 0, [], sn, 0, [], [], ep, seq, p, zero16, ()) = (((sn.length : Int) == 12) && (inR ep 0 4294967295 && (inR seq 0 281474976710655 && bodyOk kind (p.length : Int)))) := by
  unfold frameOk
  simp only [hk, cond_true]
  simp [zero16]
theorem i_Seal (k : List YB) (r : Int) (sn : List YB) (ep seq kind : Int) (p : List YB) (h1 : sn.length ≤ 67108864) (h2 : p.length ≤ 67108864) : V_i_Seal (k, ()) (r, ()) (sn, ()) (ep, ()) (seq, ()) (kind, ()) (p, ()) = some (sealed k r sn ep seq kind p) := by
  have hm := mix_le k (headOf r sn ep seq) p
  unfold V_i_Seal T_i_Seal sealed sealOk headOk
  simp only [val_br, val_ob, val_leaf]
  rw [i_clone _ (by dsimp only; omega), ob_s, i_clone _ (by dsimp only; omega), ob_s]
  simp only [i_isRole, i_Sealed, i_FrameOk, ob_s, role_in, bne]
  cases ((k.length : Int) == 32) with
  | false => rfl
  | true =>
    cases inR r 0 1 with
    | false => rfl
    | true =>
      cases hk : inR kind 4 8 with
      | false => simp [br]; rfl
      | true =>
        simp only [Bool.not_true, br_f, Bool.true_and]
        rw [show List.replicate (16 : Int).toNat ((0 : Int), ()) = zero16 from rfl, frame0 sn ep seq kind p hk, i_HeadOf, ob_s, i_Mix, ob_s]
        simp only
        rw [i_TagInput _ _ (by simp only [need_Frame]; simp [zero16]; omega), ob_s, i_Tag, ob_s]
        cases ((sn.length : Int) == 12) <;> cases inR ep 0 4294967295 <;> cases inR seq 0 281474976710655 <;> cases bodyOk kind (p.length : Int) <;> rfl
theorem s_sealLoop (x : List YB) (r a b : Int) (n1 n2 : List YB) (c : Int) (n3 n4 : List YB) (d e : Int) (n5 n6 : List YB) (kind f : Int) (n7 sn : List YB) (g : Int) (n8 n9 : List YB) (ep seq : Int) (body : List YB) :
    iterO B_s_Seal_6 (x, r, (0 : Int), a, b, n1, n2, c, n3, n4, d, e, n5, n6, kind, f, n7, sn, g, n8, n9, ep, seq, body, [], ()) = some (x, r, a, b, n1, n2, c, n3, n4, d, e, n5, n6, kind, f, n7, sn, g, n8, n9, ep, seq, body, zero16, ()) := by
  exact loop_run (B := B_s_Seal_6) 16 (fun i => (x, r, (i : Int), a, b, n1, n2, c, n3, n4, d, e, n5, n6, kind, f, n7, sn, g, n8, n9, ep, seq, body, List.replicate i ((0 : Int), ()), ())) _
    (fun i hi => by
      unfold B_s_Seal_6
      simp only [val_br, val_chk, val_leaf]
      rw [dec_t (by omega), br_t, dec_t (by simp; omega), chk_t, w64 (by omega), ← List.replicate_succ']
      rfl)
    (by unfold B_s_Seal_6; simp only [val_br, val_chk, val_leaf]; rfl)
theorem s_Seal (k : List YB) (r : Int) (sn : List YB) (ep seq kind : Int) (p : List YB) (h1 : sn.length ≤ 67108864) (h2 : p.length ≤ 67108864) : V_s_Seal (k, ()) (r, ()) (sn, ()) (ep, ()) (seq, ()) (kind, ()) (p, ()) = some (sealed k r sn ep seq kind p) := by
  have hm := mix_le k (headOf r sn ep seq) p
  have hh := headOf_le r sn ep seq
  unfold V_s_Seal T_s_Seal sealed sealOk
  simp only [val_br, val_ob, val_leaf, val_chk, List.nil_append, List.length_nil, Nat.zero_add]
  rw [s_HeadOf, ob_s]
  simp only [s_Sealed, s_l7Body, ob_s, bne]
  cases ((k.length : Int) == 32) with
  | false => rfl
  | true =>
    cases hd : headOk r sn ep seq with
    | false =>
      rw [hd] at hh
      have e : ((headOf r sn ep seq).length : Int) == 0 := by rw [hh]; rfl
      rw [e]; rfl
    | true =>
      rw [hd] at hh
      have e : (((headOf r sn ep seq).length : Int) == 0) = false := by rw [hh]; rfl
      rw [e]
      cases hk : inR kind 4 8 with
      | false => rfl
      | true =>
        cases hb : bodyOk kind (p.length : Int) with
        | false => rfl
        | true =>
          simp only [Bool.not_true, br_f, Bool.true_and, Bool.and_true, cond_true]
          rw [dec_t (by omega), chk_t, s_Mix, ob_s]
          simp only
          rw [s_sealLoop, ob_s]
          simp only
          rw [s_TagInput _ _ (by simp only [need_Frame]; simp [zero16]; omega), ob_s, s_Tag, ob_s]
theorem need_sealed (k : List YB) (r : Int) (sn : List YB) (ep seq kind : Int) (p : List YB) : need_Frame (sealed k r sn ep seq kind p).1 ≤ sn.length + p.length + 32 := by
  have hm := mix_le k (headOf r sn ep seq) p
  have ht := tagF_le k (tagInput r (kind, 0, [], sn, 0, [], [], ep, seq, mix k (headOf r sn ep seq) p, zero16, ()))
  unfold sealed
  cases sealOk k r sn ep seq kind p <;> simp [need_Frame, noFrame]
  omega
theorem tagInput_le (r : Int) (f : YFrame) : (tagInput r f).length ≤ need_Frame f + 32 := by
  have hh := headOf_le r f.2.2.2.1 f.2.2.2.2.2.2.2.1 f.2.2.2.2.2.2.2.2.1
  have hle : (headOf r f.2.2.2.1 f.2.2.2.2.2.2.2.1 f.2.2.2.2.2.2.2.2.1).length ≤ 23 := by rw [hh]; cases headOk r f.2.2.2.1 f.2.2.2.2.2.2.2.1 f.2.2.2.2.2.2.2.2.1 <;> simp
  unfold tagInput need_Frame
  cases (inR r 0 1 && (frameOk f && inR f.1 4 8)) <;> simp
  omega
end
end Go.Proofs.YtdlcjpjflckdlaaGreat

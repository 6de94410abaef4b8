/-
  That the program and the reference answer alike, in plain terms, and that the laws answer true.
-/
import Derived.Test.YtdlcjpjflckdlaaGreatL20
namespace Go.Proofs.YtdlcjpjflckdlaaGreat
open Go.RowKit
set_option linter.unusedVariables false
set_option linter.unusedSimpArgs false
set_option maxRecDepth 100000
set_option maxHeartbeats 4000000
noncomputable section
/-! ## Bytes that are the same are the same -/
def wfB (l : List YB) : Prop := ∀ (i : Nat) (x : YB), l[i]? = some x → 0 ≤ x.1 ∧ x.1 ≤ 255
theorem wfB_of {e : Nat} {l : List YB} (h : wfD (.sl e [.int .u8]) l) : wfB l := fun i x hx => by
  simp only [wfD] at h
  have h1 := h.2 i x hx
  simp only [wfDs, wfD] at h1
  have h2 := h1.1
  simp [Lit.wf, IntKind.min, IntKind.max, IntKind.signed, IntKind.bits] at h2
  omega
theorem wfB_cons {a : YB} {l : List YB} (h : wfB (a :: l)) : (0 ≤ a.1 ∧ a.1 ≤ 255) ∧ wfB l := ⟨h 0 a rfl, fun i x hx => h (i + 1) x (by simpa using hx)⟩
theorem u8_inj {n m : Int} (hn : 0 ≤ n ∧ n ≤ 255) (hm : 0 ≤ m ∧ m ≤ 255) (h : UInt8.ofNat n.toNat = UInt8.ofNat m.toNat) : n = m := by
  have := congrArg UInt8.toNat h
  simp only [UInt8.toNat_ofNat'] at this
  omega
theorem map_inj : ∀ {a b : List YB}, wfB a → wfB b → (a.map fun d => UInt8.ofNat (Int.toNat d.1)) = (b.map fun d => UInt8.ofNat (Int.toNat d.1)) → a = b
  | [], [], _, _, _ => rfl
  | x :: a, y :: b, ha, hb, h => by
    simp only [List.map_cons, List.cons.injEq] at h
    obtain ⟨x1, x2⟩ := wfB_cons ha
    obtain ⟨y1, y2⟩ := wfB_cons hb
    have e := u8_inj x1 y1 h.1
    have e2 := map_inj x2 y2 h.2
    obtain ⟨n, ⟨⟩⟩ := x
    obtain ⟨m, ⟨⟩⟩ := y
    simp only at e
    rw [e, e2]
  | [], _ :: _, _, _, h => by simp at h
  | _ :: _, [], _, _, h => by simp at h
theorem sameB_eq {a b : List YB} (ha : wfB a) (hb : wfB b) (h : sameB a b = true) : a = b := by
  unfold sameB at h
  have h1 : bstr a = bstr b := by simpa using h
  unfold bstr at h1
  simp only [ByteArray.mk.injEq] at h1
  exact map_inj ha hb (by simpa using h1)
theorem sealed_sn {k : List YB} {r : Int} {sn : List YB} {ep seq kind : Int} {p : List YB} (h : sealOk k r sn ep seq kind p = true) : (sealed k r sn ep seq kind p).1.2.2.2.1 = sn := by
  unfold sealed
  rw [h]; rfl
theorem sess_sn {s : YSess} (h : sessOk s = true) (hd : deadOf s = false) (w1 : wfB (chanOf s).2.1) (w2 : wfB s.2.2.1) : (chanOf s).2.1 = s.2.2.1 := by
  unfold sessOk at h
  rw [hd] at h
  simp only [cond_false, Bool.and_eq_true] at h
  exact sameB_eq w1 w2 h.2.2.2.2.2.2.1
def SsR (s : YSess) (m : Nat) (r : YSess) (os : List YOut) (ns : List YNote) (k : Int) : Prop := SeR s m r os ns ∧ (k ≠ 0 → r = s ∧ os = [] ∧ ns = []) ∧ (k = 0 → sessOk s = true ∧ deadOf s = false)
theorem ok_SessSend (s : YSess) (b : List YB) (w1 : wfB (chanOf s).2.1) (w2 : wfB s.2.2.1) (h : need_Sess s + b.length ≤ 8388608) :
    ∃ r os ns k, V_i_SessSend s (b, ()) = some (r, (os, ()), (ns, ()), (k, ())) ∧ V_s_SessSend s (b, ()) = some (r, (os, ()), (ns, ()), (k, ())) ∧ SsR s b.length r os ns k := by
  have hch := chanOf_need s
  unfold V_i_SessSend T_i_SessSend V_s_SessSend T_s_SessSend
  simp only [val_br, val_ob, val_leaf, val_chk, List.length_nil, Nat.zero_add, List.nil_append]
  rw [i_copySess s (by omega), s_l20Copy s (by omega), i_SessOk s (by omega), s_SessOk s (by omega)]
  simp only [ob_s]
  have nope : ∀ k : Int, k ≠ 0 → ∃ r os ns k', some (s, (([] : List YOut), ()), (([] : List YNote), ()), (k, ())) = some (r, (os, ()), (ns, ()), (k', ())) ∧ some (s, (([] : List YOut), ()), (([] : List YNote), ()), (k, ())) = some (r, (os, ()), (ns, ()), (k', ())) ∧ SsR s b.length r os ns k' := fun k hk =>
    ⟨s, [], [], k, rfl, rfl, .none, fun _ => ⟨rfl, rfl, rfl⟩, fun h => (hk h).elim⟩
  cases ho : sessOk s with
  | false => exact nope 1 (by decide)
  | true =>
    simp only [Bool.not_true, br_f]
    by_cases h40 : (b.length : Int) > 40
    · rw [dec_t h40]; exact nope 1 (by decide)
    · rw [dec_f h40]
      simp only [br_f]
      by_cases hd0 : s.2.2.2.2.2.2.2.2.2.2.2.2.2.2.2.2.2.2.2.2.2.2.2.1 = true
      · rw [br_tt hd0, br_tt hd0]; exact nope 6 (by decide)
      · have hd : s.2.2.2.2.2.2.2.2.2.2.2.2.2.2.2.2.2.2.2.2.2.2.2.1 = false := by simpa using hd0
        rw [br_ff hd, br_ff hd]
        obtain ⟨c', f, z, a1, a2, e', q1, q2, q3, q4, q5⟩ := ok_ChanSeal (chanOf s) 4 b (by omega)
        rw [a1, a2]
        simp only [ob_s]
        have hk := key_need c'
        have hm := need_madeC c' f
        have hfs : f.2.2.2.1.length ≤ need_Frame f := by simp only [need_Frame]; omega
        by_cases z0 : z = 0
        · have ez : (z != (0 : Int)) = false := by simp [z0]
          simp only [ez, br_f]
          obtain ⟨r1, r2, r3, r4, r5, r6⟩ := q5 z0
          have hsn : f.2.2.2.1 = s.2.2.1 := by rw [r5, sealed_sn r6]; exact sess_sn ho hd w1 w2
          have hl : s.2.2.1.length ≤ need_Sess s := by simp only [need_Sess]; omega
          have hsl : f.2.2.2.1.length = s.2.2.1.length := by rw [hsn]
          rw [i_clone _ (by dsimp only; omega), i_clone _ (by dsimp only; omega), dec_t (by omega), dec_t (by omega), i_madeBy _ _ (by omega) (by omega), s_l19Made _ _ (by omega) (by omega)]
          simp only [ob_s, chk_t]
          rw [hsn]
          subst z0
          refine ⟨withCh s c', _, _, 0, rfl, rfl, ⟨withCh_need (by omega), ?_, ?_, fun _ _ => ⟨withCh_ok ho hd r2 (by rw [q1]; rfl) (by rw [q1]; rfl), rfl, hd⟩⟩, fun h => (h rfl).elim, fun _ => ⟨ho, hd⟩⟩
          · simp only [sumN, need_Out, List.length_cons, List.length_nil]
            simp only [need_Frame] at q3; omega
          · simp only [sumN, List.length_cons, List.length_nil, need_Note] at hm ⊢; omega
        · have ez : (z != (0 : Int)) = true := by simpa using z0
          simp only [ez, br_t]
          exact nope z z0
end
end Go.Proofs.YtdlcjpjflckdlaaGreat

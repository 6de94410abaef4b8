/-
  What the helpers on byte slices do, for every slice that reads as bytes.
-/
import Derived.Test.YtddpdlggnbkpbaaDat
namespace Go.Proofs.Ytddpdlggnbkpbaa
open Go.RowKit
set_option maxHeartbeats 1000000
set_option linter.unusedVariables false
theorem wrap_id (n : Int) (h : -9223372036854775808 ≤ n ∧ n ≤ 9223372036854775807) : IntKind.i64.wrap n = n := IntWalk.i64_in _ (by omega)
theorem szByteS_any (s : Value) (l : List UInt8) (left : Int) (f : Frag) (w : World) (hr : RdB f s l) (hf : Lies f w) (h0 : 0 ≤ left) (h1 : left ≤ 1048576) :
    Calls Try.prog 39 #[s, .int .i64 left] w (RetSz w l.length left) := by
  obtain ⟨a, cap, rfl, hc, hm, _⟩ := hr.out
  unfold maxLen at hm
  go_enter Try.func39, Try.ntmps39
  go_wp2
  all_goals go_ret
  · exact RetSz.mk (by unfold szb; rw [if_pos (by omega)]) (by omega) (Grew.refl _)
  · exact RetSz.mk (by unfold szb; rw [if_neg (by omega)]) (by omega) (Grew.refl _)
theorem beq_u8 (x y : UInt8) : ((x.toNat : Int) != (y.toNat : Int)) = (x != y) := by
  rw [Bool.eq_iff_iff]; simp only [bne_iff_ne, ne_eq, Int.ofNat_inj, UInt8.toNat_inj]
theorem list_ne_at {l m : List UInt8} {k : Nat} (h : l.getD k 0 ≠ m.getD k 0) : l ≠ m := fun e => h (by rw [e])
theorem eqByteS_any (s t : Value) (l m : List UInt8) (f g : Frag) (w : World) (hs : RdB f s l) (ht : RdB g t m) (hf : Lies f w) (hg : Lies g w) :
    Calls Try.prog 43 #[s, t] w (Ret w (.bool (eqc l m))) := by
  obtain ⟨a, cap, rfl, hc, hm, _⟩ := hs.out
  obtain ⟨a', cap', rfl, hc', hm', _⟩ := ht.out
  unfold maxLen at hm hm'
  by_cases hlen : l.length = m.length
  · have hl : ((l.length : Int) != (m.length : Int)) = false := by simp [hlen]
    have HL := Lib.hid hlen
    have hle : l.length ≤ m.length := by omega
    clear hlen
    go_enter Try.func43, Try.ntmps43
    go_wp2
    go_loopw [5] (fun i wr => ∃ k : Nat, k ≤ l.length ∧ i = .int .i64 k ∧ Hid (l.take k = m.take k) ∧ Grew w wr) (fun i _ => l.length - (intOf i).toNat)
    case atStart => exact ⟨0, Nat.zero_le _, rfl, by simp [Hid], Grew.refl _⟩
    case round =>
      obtain ⟨k, hk, rfl, HT, hG⟩ := hrel
      by_cases hlt : k < l.length
      · obtain ⟨b, o, cp, e1, _, _, hcell⟩ := hs.addr (by omega)
        obtain ⟨b', o', cp', e2, _, _, hcell'⟩ := ht.addr (by omega)
        cases e1; cases e2
        have c1 := Lies.cell (hf.grew hG) (hcell k hlt)
        have c2 := Lies.cell (hg.grew hG) (hcell' k (by omega))
        clear hcell hcell'
        obtain ⟨x, hx⟩ : ∃ x, l.getD k 0 = x := ⟨_, rfl⟩
        obtain ⟨y, hy⟩ : ∃ y, m.getD k 0 = y := ⟨_, rfl⟩
        rw [hx] at c1; rw [hy] at c2
        have HX := Lib.hid hx
        have HY := Lib.hid hy
        clear hx hy
        by_cases hxy : x = y
        · have hb : ((x.toNat : Int) != (y.toNat : Int)) = false := by rw [hxy]; simp
          have HXY := Lib.hid hxy
          clear hxy
          go_wp2
          go_quiet (fail)
          go_wp2
          go_roundw
          case rel => exact ⟨k + 1, by omega, by go_num, by unfold Hid; rw [take_succ_getD l k hlt, take_succ_getD m k (by omega), HX.out, HY.out, HXY.out, HT.out], hG.drewN _⟩
          case measure => simp [intOf]; omega
        · have hb : ((x.toNat : Int) != (y.toNat : Int)) = true := by rw [beq_u8]; simpa using hxy
          have hne : Hid (eqc l m = false) := eqc_false (list_ne_at (k := k) (by rw [HX.out, HY.out]; exact hxy))
          clear hxy
          go_wp2
          go_quiet (fail)
          go_wp2
          go_ret
          exact Ret.mk (by rw [hne.out]; rfl) (hG.drewN _)
      · go_wp2
        go_ret
        exact Ret.mk (by
          have he := HL.out
          have ht := HT.out
          rw [List.take_of_length_le (by omega), List.take_of_length_le (by omega)] at ht
          rw [eqc_true ht]; rfl) hG
  · have hl : ((l.length : Int) != (m.length : Int)) = true := by simp; omega
    have hE := Lib.hid (eqc_false (fun e : l = m => hlen (by rw [e])))
    clear hlen
    go_enter Try.func43, Try.ntmps43
    go_wp2
    go_ret
    exact Ret.mk (by rw [hE.out]; rfl) (Grew.refl _)
theorem encB_take_succ (l : List UInt8) (k : Nat) (h : k < l.length) : encB (l.take (k + 1)) = encB (l.take k) ++ [.int .u8 (l.getD k 0).toNat] := by
  rw [take_succ_getD l k h, encB_append]; rfl
theorem take_set_succ (C : Array Value) (k : Nat) (v : Value) (h : k < C.size) : (C.setIfInBounds k v).toList.take (k + 1) = C.toList.take k ++ [v] := by
  rw [Array.toList_setIfInBounds, List.take_succ_eq_append_getElem (by simpa using h)]
  simp [List.take_set_of_le]
theorem toByteS_any (s : Value) (l : List UInt8) (f : Frag) (w : World) (hr : RdB f s l) (hf : Lies f w) (hl : l.length ≤ 1048576) :
    Calls Try.prog 41 #[s] w (Gives w fun v g => OwnB g v l) := by
  obtain ⟨a, cap, rfl, hc, hm, _⟩ := hr.out
  unfold maxLen at hm
  go_enter Try.func41, Try.ntmps41
  go_wp2_with (at_make; refine wpList_make_new rowByteS rfl _ _ rfl l.length rfl rfl (by omega) (by omega) ?_)
  go_loopw [4] (fun i wr => ∃ (k : Nat) (C : Array Value), k ≤ l.length ∧ i = .int .i64 k ∧ wr = w.alloc (.cells C 5) ∧ Hid (C.size = l.length) ∧ Hid (C.toList.take k = encB (l.take k))) (fun i _ => l.length - (intOf i).toNat)
  case atStart => exact ⟨0, _, Nat.zero_le _, rfl, rfl, size_madeCells _ _, by simp [Hid, encB]⟩
  case round =>
    obtain ⟨k, C, hk, rfl, rfl, HS, HC⟩ := hrel
    by_cases hlt : k < l.length
    · obtain ⟨b, o, cp, e1, _, _, hcell⟩ := hr.addr (by omega)
      cases e1
      have c1 := Lies.cell hf (hcell k hlt)
      have c2 : b < w.heap.size := block_lt_of_cell c1
      have c3 : k < C.size := by rw [HS.out]; exact hlt
      clear hcell
      obtain ⟨x, hx⟩ : ∃ x, l.getD k 0 = x := ⟨_, rfl⟩
      rw [hx] at c1
      have HX := Lib.hid hx
      clear hx
      go_wp2
      go_roundw
      case rel => exact ⟨k + 1, _, by omega, by go_num, rfl, by simpa [Hid] using HS.out, by
        unfold Hid; rw [encB_take_succ l k hlt, HX.out, ← HC.out]; exact take_set_succ _ _ _ c3⟩
      case measure => simp [intOf]; omega
    · have hkl : k = l.length := by omega
      subst hkl
      go_wp2
      go_ret
      refine Gives.mk (Frag.one w.heap.size (.cells C 5)) ((Grew.refl w).alloc _) (one_lies (heap_alloc_new w _)) (one_from _ _ _ (Nat.le_refl _)) ?_
      exact ⟨by simp [encB], .inr ⟨w.heap.size, l.length, C, rfl, one_self _ _, Nat.le_refl _, by unfold maxLen; omega, by rw [HS.out]; simp, by
        have := HC.out; rw [List.take_length] at this; rw [Nat.mul_one]; exact this⟩⟩
theorem ByteSform {f : Frag} {s : Value} {l : List UInt8} (h : OwnB f s l) : ∃ a cap, s = .slice a l.length cap := h.form


end Go.Proofs.Ytddpdlggnbkpbaa

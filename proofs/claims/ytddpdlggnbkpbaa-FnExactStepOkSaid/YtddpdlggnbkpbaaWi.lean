/-
  What StepOk, AddrOk, WireOk, WiresOk of the program and of the reference return, for all arguments.
-/
import Derived.Test.YtddpdlggnbkpbaaDat
namespace Go.Proofs.Ytddpdlggnbkpbaa
open Go.RowKit
set_option maxHeartbeats 1000000
set_option linter.unusedVariables false
def wi (n lo hi : Int) : Bool := decide (lo ≤ n ∧ n ≤ hi)
theorem within_any (n lo hi : Int) (w : World) :
    Calls Try.prog 42 #[.int .i64 n, .int .i64 lo, .int .i64 hi] w fun e w' => e = .returned (.bool (wi n lo hi)) ∧ w = w' := by
  unfold wi
  by_cases h1 : lo ≤ n
  · by_cases h2 : n ≤ hi
    · go_enter Try.func42, Try.ntmps42
      go_wp2
      go_ret
      exact ⟨by simp [h1, h2], rfl⟩
    · go_enter Try.func42, Try.ntmps42
      go_wp2
      go_ret
      exact ⟨by simp [h2], rfl⟩
  · go_enter Try.func42, Try.ntmps42
    go_wp2
    go_ret
    exact ⟨by simp; omega, rfl⟩
theorem l1In_any (n lo hi : Int) (w : World) :
    Calls Try.prog 40 #[.int .i64 n, .int .i64 lo, .int .i64 hi] w fun e w' => e = .returned (.bool (wi n lo hi)) ∧ w = w' := by
  unfold wi
  by_cases h1 : lo ≤ n
  · by_cases h2 : n ≤ hi
    · go_enter Try.func40, Try.ntmps40
      go_wp2
      go_ret
      exact ⟨by simp [h1, h2], rfl⟩
    · go_enter Try.func40, Try.ntmps40
      go_wp2
      go_ret
      exact ⟨by simp [h2], rfl⟩
  · go_enter Try.func40, Try.ntmps40
    go_wp2
    go_ret
    exact ⟨by simp; omega, rfl⟩
def stepOk (a : DOp) : Bool := wi a.Kind 1 10 && decide (a.B.length ≤ 200) && wi a.I 0 200 && wi a.J 0 200
theorem implStepOk_any (cs : List Value) (a : DOp) (f : Frag) (w : World) (hr : rdOp f cs a) (hf : Lies f w) : Calls Try.prog 12 #[.agg cs.toArray] w (Ret w (.bool (stepOk a))) := by
  obtain ⟨p1, c1, rfl, h1⟩ := hr
  cases e1 : wi a.Kind 1 10
  case' true => by_cases e2 : a.B.length ≤ 200
  case' pos => cases e3 : wi a.I 0 200
  case' pos.true => cases e4 : wi a.J 0 200
  all_goals
    go_enter Try.func12, Try.ntmps12
    go_wp2_with (go_at_call 42; refine (within_any _ _ _ _).mono ?_; rintro e w' ⟨rfl, rfl⟩)
    go_ret
    exact Ret.mk (by simp [stepOk, *]) ((Grew.refl _).alloc _)
theorem specStepOk_any (cs : List Value) (a : DOp) (f : Frag) (w : World) (hr : rdOp f cs a) (hf : Lies f w) : Calls Try.prog 10 #[.agg cs.toArray] w (Ret w (.bool (stepOk a))) := by
  obtain ⟨p1, c1, rfl, h1⟩ := hr
  cases e1 : wi a.Kind 1 10
  case' true => by_cases e2 : a.B.length ≤ 200
  case' pos => cases e3 : wi a.I 0 200
  case' pos.true => cases e4 : wi a.J 0 200
  all_goals
    go_enter Try.func10, Try.ntmps10
    go_wp2_with (go_at_call 40; refine (l1In_any _ _ _ _).mono ?_; rintro e w' ⟨rfl, rfl⟩)
    go_ret
    exact Ret.mk (by simp [stepOk, *]) ((Grew.refl _).alloc _)
def addrOk (a : DAddr) : Bool := wi a.Host 0 4294967295 && wi a.Port 0 65535
theorem implAddrOk_any (a : DAddr) (w : World) : Calls Try.prog 45 #[.agg #[.int .i64 a.Host, .int .i64 a.Port]] w (Ret w (.bool (addrOk a))) := by
  cases e1 : wi a.Host 0 4294967295
  case' true => cases e2 : wi a.Port 0 65535
  all_goals
    go_enter Try.func45, Try.ntmps45
    go_wp2_with (go_at_call 42; refine (within_any _ _ _ _).mono ?_; rintro e w' ⟨rfl, rfl⟩)
    go_ret
    exact Ret.mk (by simp [addrOk, *]) ((Grew.refl _).alloc _)
theorem specAddrOk_any (a : DAddr) (w : World) : Calls Try.prog 44 #[.agg #[.int .i64 a.Host, .int .i64 a.Port]] w (Ret w (.bool (addrOk a))) := by
  cases e1 : wi a.Host 0 4294967295
  case' true => cases e2 : wi a.Port 0 65535
  all_goals
    go_enter Try.func44, Try.ntmps44
    go_wp2_with (go_at_call 40; refine (l1In_any _ _ _ _).mono ?_; rintro e w' ⟨rfl, rfl⟩)
    go_ret
    exact Ret.mk (by simp [addrOk, *]) ((Grew.refl _).alloc _)
def wireOk (a : DWire) : Bool := addrOk a.From && addrOk a.To && decide (a.B.length ≤ 200)
theorem implWireOk_any (cs : List Value) (a : DWire) (f : Frag) (w : World) (hr : rdWire f cs a) (hf : Lies f w) : Calls Try.prog 17 #[.agg cs.toArray] w (Ret w (.bool (wireOk a))) := by
  obtain ⟨p1, c1, rfl, h1⟩ := hr
  have l0 : ∀ n, w.heap.size < w.heap.size + 1 + n := fun n => by omega
  cases e1 : addrOk a.From
  case' true => cases e2 : addrOk a.To
  case' true.true => by_cases e3 : a.B.length ≤ 200
  all_goals
    go_enter Try.func17, Try.ntmps17
    go_wp2_with (go_at_call 45; refine (implAddrOk_any ⟨_, _⟩ _).mono ?_; rintro e w' ⟨rfl, x1, rfl⟩)
    go_ret
    exact Ret.mk (by simp [wireOk, *] <;> omega) (by repeat (first | exact Grew.refl _ | apply Grew.ext | apply Grew.alloc))
theorem specWireOk_any (cs : List Value) (a : DWire) (f : Frag) (w : World) (hr : rdWire f cs a) (hf : Lies f w) : Calls Try.prog 15 #[.agg cs.toArray] w (Ret w (.bool (wireOk a))) := by
  obtain ⟨p1, c1, rfl, h1⟩ := hr
  have l0 : ∀ n, w.heap.size < w.heap.size + 1 + n := fun n => by omega
  cases e1 : addrOk a.From
  case' true => cases e2 : addrOk a.To
  case' true.true => by_cases e3 : a.B.length ≤ 200
  all_goals
    go_enter Try.func15, Try.ntmps15
    go_wp2_with (go_at_call 44; refine (specAddrOk_any ⟨_, _⟩ _).mono ?_; rintro e w' ⟨rfl, x1, rfl⟩)
    go_ret
    exact Ret.mk (by simp [wireOk, *] <;> omega) (by repeat (first | exact Grew.refl _ | apply Grew.ext | apply Grew.alloc))
def wiresOk (l : List DWire) : Bool := l.all wireOk && decide (l.length ≤ 90)
theorem all_take_snoc {α : Type} {p : α → Bool} {l : List α} {k : Nat} {a : α} (h : l[k]? = some a) (ht : (l.take k).all p = true) (ha : p a = true) : (l.take (k + 1)).all p = true := by
  rw [take_snoc h, List.all_append, ht]; simp [ha]
theorem all_false {α : Type} {p : α → Bool} {l : List α} {k : Nat} {a : α} (h : l[k]? = some a) (ha : p a = false) : l.all p = false := by
  rw [Bool.eq_false_iff]; intro hh; rw [List.all_eq_true] at hh; rw [hh a (List.mem_of_getElem? h)] at ha; cases ha
theorem specWiresOk_any (s : Value) (l : List DWire) (f : Frag) (w : World) (hr : RdList 5 rdWire f s l) (hf : Lies f w) : Calls Try.prog 20 #[s] w (Ret w (.bool (wiresOk l))) := by
  obtain ⟨a, cap, rfl, hm, hc⟩ := hr.form
  unfold maxLen at hm
  go_enter Try.func20, Try.ntmps20
  go_wp2
  go_loopw [3] (fun i wr => ∃ k : Nat, k ≤ l.length ∧ i = .int .i64 k ∧ Hid ((l.take k).all wireOk = true) ∧ Grew w wr) (fun i _ => l.length - (intOf i).toNat)
  case atStart => exact ⟨0, Nat.zero_le _, rfl, by simp [Hid], Grew.refl _⟩
  case round =>
    obtain ⟨k, hk, rfl, HT, hG⟩ := hrel
    by_cases hlt : k < l.length
    · obtain ⟨d, b, o, cp, c, hd, e1, hlen, hrd, hcell⟩ := hr.elem (by omega) hlt
      cases e1
      have hcells : ∀ j v, c[j]? = some v → wr.cell? ⟨b, o + (k * 5 + j), none⟩ = some v := fun j v hv => Lies.cell (hf.grew hG) (hcell j v hv)
      have HD := Lib.hid hd
      clear hd hcell
      go_wp2_with (refine wpList_load_mid rfl _ _ rfl b (o + k * 5) rfl c _ (fun j v hv => by rw [Nat.add_assoc]; exact hcells j v hv) Try.underlying39 rfl (by rw [hlen]; kernel_rfl) ?_; clear hcells)
      refine (specWireOk_any _ _ _ _ hrd (hf.grew hG)).mono ?_
      rintro e w' ⟨rfl, x, rfl⟩
      cases hw : wireOk d
      · have hE : Hid (wiresOk l = false) := by unfold Hid wiresOk; rw [all_false HD.out hw]; rfl
        go_wp2_with fail
        go_ret
        exact Ret.mk (by rw [hE.out]; rfl) (hG.ext _)
      · have HN : Hid ((l.take (k + 1)).all wireOk = true) := all_take_snoc HD.out HT.out hw
        go_wp2_with fail
        go_roundw
        case rel => exact ⟨k + 1, by omega, by go_num, HN, hG.ext _⟩
        case measure => simp [intOf]; omega
    · have hE : Hid (wiresOk l = decide (l.length ≤ 90)) := by
        have h := HT.out; rw [List.take_of_length_le (by omega)] at h; unfold Hid wiresOk; rw [h]; rfl
      by_cases h90 : l.length ≤ 90
      all_goals
        go_wp2_with fail
        go_ret
        exact Ret.mk (by rw [hE.out]; simp [h90] <;> omega) hG
theorem implWiresOk_any (s : Value) (l : List DWire) (f : Frag) (w : World) (hr : RdList 5 rdWire f s l) (hf : Lies f w) : Calls Try.prog 22 #[s] w (Ret w (.bool (wiresOk l))) := by
  obtain ⟨a, cap, rfl, hm, hc⟩ := hr.form
  unfold maxLen at hm
  go_enter Try.func22, Try.ntmps22
  go_wp2
  go_loopw [7] (fun i wr => ∃ k : Nat, k ≤ l.length ∧ i = .int .i64 k ∧ Hid ((l.take k).all wireOk = true) ∧ Grew w wr) (fun i _ => l.length - (intOf i).toNat)
  case atStart => exact ⟨0, Nat.zero_le _, rfl, by simp [Hid], Grew.refl _⟩
  case round =>
    obtain ⟨k, hk, rfl, HT, hG⟩ := hrel
    by_cases hlt : k < l.length
    · obtain ⟨d, b, o, cp, c, hd, e1, hlen, hrd, hcell⟩ := hr.elem (by omega) hlt
      cases e1
      have hcells : ∀ j v, c[j]? = some v → wr.cell? ⟨b, o + (k * 5 + j), none⟩ = some v := fun j v hv => Lies.cell (hf.grew hG) (hcell j v hv)
      have HD := Lib.hid hd
      clear hd hcell
      obtain ⟨wp, wc, rfl, _⟩ := id hrd
      go_wp2_with (refine wpList_load_mid rfl _ _ rfl b (o + k * 5) rfl _ _ (fun j v hv => by rw [Nat.add_assoc]; exact hcells j v hv) Try.underlying39 rfl (by kernel_rfl) ?_; clear hcells)
      refine (implWireOk_any _ _ _ _ hrd ((hf.grew hG).alloc _)).mono ?_
      rintro e w' ⟨rfl, x, rfl⟩
      cases hw : wireOk d
      · have hE : Hid (wiresOk l = false) := by unfold Hid wiresOk; rw [all_false HD.out hw]; rfl
        go_wp2_with fail
        go_ret
        exact Ret.mk (by rw [hE.out]; rfl) ((hG.alloc _).ext _)
      · have HN : Hid ((l.take (k + 1)).all wireOk = true) := all_take_snoc HD.out HT.out hw
        go_wp2_with fail
        go_roundw
        case rel => exact ⟨k + 1, by omega, by go_num, HN, (hG.alloc _).ext _⟩
        case measure => simp [intOf]; omega
    · have hE : Hid (wiresOk l = decide (l.length ≤ 90)) := by
        have h := HT.out; rw [List.take_of_length_le (by omega)] at h; unfold Hid wiresOk; rw [h]; rfl
      by_cases h90 : l.length ≤ 90
      all_goals
        go_wp2_with fail
        go_ret
        exact Ret.mk (by rw [hE.out]; simp [h90] <;> omega) hG


end Go.Proofs.Ytddpdlggnbkpbaa

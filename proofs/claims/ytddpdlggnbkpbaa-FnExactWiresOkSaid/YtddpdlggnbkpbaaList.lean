/-
  What the helpers sz, to, eq on slices of structs do, for every slice that reads as data.
-/
import Derived.Test.YtddpdlggnbkpbaaAid
namespace Go.Proofs.Ytddpdlggnbkpbaa
open Go.RowKit
set_option maxHeartbeats 1000000
set_option linter.unusedVariables false
theorem szWireS_any (s : Value) (l : List DWire) (left : Int) (f : Frag) (w : World) (hr : RdList 5 rdWire f s l) (hf : Lies f w) (h0 : 0 ≤ left) (h1 : left ≤ 1048576) :
    Calls Try.prog 19 #[s, .int .i64 left] w (RetSz w (bulkL bulkWire l) left) := by
  obtain ⟨a, cap, rfl, hm, hc⟩ := hr.form
  unfold maxLen at hm
  by_cases hn : left < l.length
  · go_enter Try.func19, Try.ntmps19
    go_wp2
    go_ret
    exact RetSz.mk (by unfold szb bulkL; rw [if_pos (by omega)]) (by omega) (Grew.refl _)
  · go_enter Try.func19, Try.ntmps19
    go_wp2
    go_loopw [1, 5] (fun z i wr => ∃ (k : Nat) (r : Int), k ≤ l.length ∧ i = .int .i64 k ∧ z = .int .i64 r ∧ 0 ≤ r ∧ r ≤ left ∧ Hid (r = szb (l.length + sumOf ((l.take k).map bulkWire)) left) ∧ Grew w wr) (fun _ i _ => l.length - (intOf i).toNat)
    case atStart => exact ⟨0, left - l.length, Nat.zero_le _, rfl, rfl, by omega, by omega, by unfold Hid szb; simp [sumOf]; omega, Grew.refl _⟩
    case round =>
      obtain ⟨k, r, hk, rfl, rfl, hr0, hr1, HR, hG⟩ := hrel
      by_cases hlt : k < l.length
      · obtain ⟨d, b, o, cp, c, hd, e1, hlen, hrd, hcell⟩ := hr.elem (by omega) hlt
        cases e1
        have hcells : ∀ j v, c[j]? = some v → wr.cell? ⟨b, o + (k * 5 + j), none⟩ = some v := fun j v hv => Lies.cell (hf.grew hG) (hcell j v hv)
        have HD := Lib.hid hd
        clear hd hcell
        go_wp2_with (refine wpList_load_mid rfl _ _ rfl b (o + k * 5) rfl c _ (fun j v hv => by rw [Nat.add_assoc]; exact hcells j v hv) Try.underlying34 rfl (by rw [hlen]; kernel_rfl) ?_; clear hcells)
        refine (szWire_any _ _ _ _ _ hrd (hf.grew hG) hr0 (by omega)).mono ?_
        rintro e w' ⟨r2, rfl, hle, H2, x, rfl⟩
        have hT : sumOf ((l.take (k + 1)).map bulkWire) = sumOf ((l.take k).map bulkWire) + bulkWire d := by rw [take_snoc HD.out, List.map_append, sumOf_append]; simp [sumOf]
        have HR2 : Hid (r2 = szb (l.length + sumOf ((l.take (k + 1)).map bulkWire)) left) := by
          unfold Hid; rw [H2.out, HR.out, hT, ← Nat.add_assoc]; exact szb_add (by rw [← HR.out]; omega) h0
        clear hT
        by_cases hn2 : r2 < 0
        · go_wp2_with fail
          go_ret
          exact RetSz.mk (by have hle := sumOf_take bulkWire l (k + 1); unfold bulkL; rw [show l.length + sumOf (l.map bulkWire) = (l.length + sumOf ((l.take (k + 1)).map bulkWire)) + (sumOf (l.map bulkWire) - sumOf ((l.take (k + 1)).map bulkWire)) by omega]; exact szb_stop (by rw [← HR2.out]; exact hn2)) (by omega) (hG.ext _)
        · go_wp2_with fail
          go_roundw
          case rel => exact ⟨k + 1, r2, by omega, by go_num, rfl, by omega, by omega, HR2, hG.ext _⟩
          case measure => simp [intOf]; omega
      · go_wp2_with fail
        go_ret
        exact RetSz.mk (by have hh := HR.out; rw [List.take_of_length_le (by omega)] at hh; unfold bulkL; exact hh.symm) (by omega) hG
theorem toWireS_any (s : Value) (l : List (DWire)) (f : Frag) (w : World) (hr : RdList 5 rdWire f s l) (hf : Lies f w) (hl : bulkL bulkWire l ≤ 1048576) :
    Calls Try.prog 21 #[s] w (Gives w fun v g => OwnList 39 5 ownWire g v l) := by
  obtain ⟨a, cap, rfl, hm, hc⟩ := hr.form
  unfold maxLen at hm
  have hll : l.length ≤ 1048576 := by unfold bulkL at hl; omega
  go_enter Try.func21, Try.ntmps21
  go_wp2_with (at_make; refine wpList_make_new rowWireS rfl _ _ rfl l.length rfl rfl (by omega) (by omega) ?_)
  go_loopw [4] (fun i wr => ∃ (k : Nat) (C : Array Value) (x : More) (hs : List Frag) (css : List (List Value)), k ≤ l.length ∧ i = .int .i64 k ∧ wr = (w.alloc (.cells C 39)).ext x ∧ Hid (C.size = l.length * 5 ∧ C.toList.take (k * 5) = css.flatten ∧ OwnElems 5 ownWire hs css (l.take k)) ∧ Hid (hs.Pairwise Frag.apart ∧ ∀ g ∈ hs, In (w.heap.size + 1) x g)) (fun i _ => l.length - (intOf i).toNat)
  case atStart =>
    exact ⟨0, _, ⟨#[], _⟩, [], [], Nat.zero_le _, rfl, self_ext _, ⟨size_madeCells _ _, by simp, OwnElems.nil _ _⟩, .nil, fun g hg => by cases hg⟩
  case round =>
    obtain ⟨k, C, x, hs, css, hk, rfl, rfl, HA, HB⟩ := hrel
    by_cases hlt : k < l.length
    · obtain ⟨d, b, o, cp, c, hd, e1, hlen, hrd, hcell⟩ := hr.elem (by omega) hlt
      cases e1
      have hcells : ∀ j v, c[j]? = some v → ((w.alloc (.cells C 39)).ext x).cell? ⟨b, o + (k * 5 + j), none⟩ = some v := fun j v hv => Lies.cell ((hf.alloc _).ext _) (hcell j v hv)
      have hbd : bulkWire d ≤ 1048576 := by have := bulkL_le (b := bulkWire) hd; omega
      have HD := Lib.hid hd
      clear hd hcell
      go_wp2_with (refine wpList_load_mid rfl _ _ rfl b (o + k * 5) rfl c _ (fun j v hv => by rw [Nat.add_assoc]; exact hcells j v hv) Try.underlying34 rfl (by rw [hlen]; kernel_rfl) ?_; clear hcells)
      refine (toWire_any _ _ _ _ hrd ((hf.alloc _).ext _) hbd).mono ?_
      rintro e w' hg
      obtain ⟨_, q, x2, rfl, rfl, hxs, hin, ha, cs2, rfl, hO⟩ := hg.mergeAt (n := w.heap.size + 1) (by simp)
      clear hg
      have hlc : cs2.length = 5 := rdWire_len (ownWire_rd _ _ _ hO)
      have hone := oneWire (ownWire_rd _ _ _ hO)
      have hroom : k * 5 + cs2.length ≤ C.size := by rw [HA.out.1, hlc, ← Nat.succ_mul]; exact Nat.mul_le_mul_right _ hlt
      go_wp2_with (refine wpList_store_lit rfl _ _ _ rfl (k * 5) cs2 rfl rfl hroom (by rw [hlc]; kernel_rfl) hone ?_)
      go_roundw
      case rel => exact ⟨k + 1, _, x2, hs ++ [q], css ++ [cs2], by omega, by go_num, rfl, ⟨by rw [size_splice hroom]; exact HA.out.1, by
        have h1 := take_splice hroom; rw [hlc, ← Nat.succ_mul] at h1; rw [h1, HA.out.2.1]; simp, by rw [take_snoc HD.out]; exact HA.out.2.2.snoc hlc hO⟩, by
        refine List.pairwise_append.2 ⟨HB.out.1, List.pairwise_singleton _ _, fun g hg h hh => ?_⟩
        simp at hh; subst hh; exact Frag.apart_symm (ha g (HB.out.2 g hg)), fun g hg => by
        rcases List.mem_append.1 hg with hg | hg
        · exact (HB.out.2 g hg).mono hxs
        · simp at hg; subst hg; exact hin⟩
      case measure => simp [intOf]; omega
    · have hkl : k = l.length := by omega
      subst hkl
      go_wp2_with fail
      go_ret
      have hB := HB.out; have hA := HA.out
      rw [List.take_length] at hA
      refine gives_row (e := 39) (C := C) hB.1 hB.2 (fun f hp => ⟨css, _, hs, ⟨by rw [flatten_length hA.2.2.len, hA.2.2.1], .inr ⟨w.heap.size, l.length, C, rfl, one_self _ _, Nat.le_refl _, by unfold maxLen; omega, hA.1, hA.2.1⟩⟩, hp, hA.2.2⟩)
theorem eqWireS_any (s t : Value) (l m : List (DWire)) (f g : Frag) (w : World) (hs : RdList 5 rdWire f s l) (ht : RdList 5 rdWire g t m) (hf : Lies f w) (hg : Lies g w) :
    Calls Try.prog 23 #[s, t] w (Ret w (.bool (eqc l m))) := by
  obtain ⟨a, cap, rfl, hm, hc⟩ := hs.form
  obtain ⟨a', cap', rfl, hm', hc'⟩ := ht.form
  unfold maxLen at hm hm'
  by_cases hlen : l.length = m.length
  case neg =>
    have hl : ((l.length : Int) != (m.length : Int)) = true := by simp; omega
    have hE := Lib.hid (eqc_false (fun e : l = m => hlen (by rw [e])))
    clear hlen
    go_enter Try.func23, Try.ntmps23
    go_wp2
    go_ret
    exact Ret.mk (by rw [hE.out]; rfl) (Grew.refl _)
  have hl : ((l.length : Int) != (m.length : Int)) = false := by simp [hlen]
  have HL := Lib.hid hlen
  have hle : l.length ≤ m.length := by omega
  clear hlen
  go_enter Try.func23, Try.ntmps23
  go_wp2
  go_loopw [5] (fun i wr => ∃ k : Nat, k ≤ l.length ∧ i = .int .i64 k ∧ Hid (l.take k = m.take k) ∧ Grew w wr) (fun i _ => l.length - (intOf i).toNat)
  case atStart => exact ⟨0, Nat.zero_le _, rfl, by simp [Hid], Grew.refl _⟩
  case round =>
    obtain ⟨k, hk, rfl, HT, hG⟩ := hrel
    by_cases hlt : k < l.length
    case neg =>
      go_wp2
      go_ret
      exact Ret.mk (by
        have he := HL.out
        have ht := HT.out
        rw [List.take_of_length_le (by omega), List.take_of_length_le (by omega)] at ht
        rw [eqc_true ht]; rfl) hG
    obtain ⟨d, b, o, cp, c, hd, e1, hlc, hrd, hcell⟩ := hs.elem (by omega) hlt
    obtain ⟨d', b', o', cp', c', hd', e1', hlc', hrd', hcell'⟩ := ht.elem (by omega) (by omega : k < m.length)
    cases e1; cases e1'
    have HD := Lib.hid hd; have HD' := Lib.hid hd'
    clear hd hd'
    obtain ⟨p1, c1, rfl, _⟩ := id hrd
    obtain ⟨bp1, bc1, rfl, _⟩ := id hrd'
    have hGk := hf.grew hG; have hGk' := hg.grew hG
    have i0 : (0 : Int) ≤ (k : Int) := by omega
    have i1 : (k : Int) < (l.length : Int) := by omega
    have i2 : (k : Int) < (m.length : Int) := by omega
    have c0 : ∀ w', Grew wr w' → w'.cell? ⟨b, o + (k * 5 + 0), none⟩ = some _ := fun w' hw => Lies.cell (hGk.grew hw) (hcell 0 _ rfl)
    have d0 : ∀ w', Grew wr w' → w'.cell? ⟨b', o' + (k * 5 + 0), none⟩ = some _ := fun w' hw => Lies.cell (hGk'.grew hw) (hcell' 0 _ rfl)
    have c1 : ∀ w', Grew wr w' → w'.cell? ⟨b, o + (k * 5 + 1), none⟩ = some _ := fun w' hw => Lies.cell (hGk.grew hw) (hcell 1 _ rfl)
    have d1 : ∀ w', Grew wr w' → w'.cell? ⟨b', o' + (k * 5 + 1), none⟩ = some _ := fun w' hw => Lies.cell (hGk'.grew hw) (hcell' 1 _ rfl)
    have c2 : ∀ w', Grew wr w' → w'.cell? ⟨b, o + (k * 5 + 2), none⟩ = some _ := fun w' hw => Lies.cell (hGk.grew hw) (hcell 2 _ rfl)
    have d2 : ∀ w', Grew wr w' → w'.cell? ⟨b', o' + (k * 5 + 2), none⟩ = some _ := fun w' hw => Lies.cell (hGk'.grew hw) (hcell' 2 _ rfl)
    have c3 : ∀ w', Grew wr w' → w'.cell? ⟨b, o + (k * 5 + 3), none⟩ = some _ := fun w' hw => Lies.cell (hGk.grew hw) (hcell 3 _ rfl)
    have d3 : ∀ w', Grew wr w' → w'.cell? ⟨b', o' + (k * 5 + 3), none⟩ = some _ := fun w' hw => Lies.cell (hGk'.grew hw) (hcell' 3 _ rfl)
    have c4 : ∀ w', Grew wr w' → w'.cell? ⟨b, o + (k * 5 + 4), none⟩ = some _ := fun w' hw => Lies.cell (hGk.grew hw) (hcell 4 _ rfl)
    have d4 : ∀ w', Grew wr w' → w'.cell? ⟨b', o' + (k * 5 + 4), none⟩ = some _ := fun w' hw => Lies.cell (hGk'.grew hw) (hcell' 4 _ rfl)
    clear hcell hcell'
    simp only [Nat.add_zero, ← Nat.add_assoc] at c0 d0 c1 d1 c2 d2 c3 d3 c4 d4
    rcases Classical.em (d = d') with hdd | hdd
    · have hE : eqc d d' = true := eqc_true hdd
      have HDD := Lib.hid hdd
      clear hdd
      go_wp2
      go_region_held3 (fun w' => Grew wr w') (repeat (first | assumption | apply Grew.ext | apply Grew.alloc | apply Grew.drew | exact Grew.refl _)) (first | (go_at_call 18; refine (eqWire_any _ _ _ _ _ _ _ hrd hrd' (hGk.grew (by assumption)) (hGk'.grew (by assumption))).mono ?_; rintro e w' ⟨rfl, x7, rfl⟩))
      go_wp2
      go_roundw
      case rel => exact ⟨k + 1, by omega, by go_num, by unfold Hid; rw [take_snoc HD.out, take_snoc HD'.out, HDD.out, HT.out], by repeat (first | assumption | apply Grew.ext | apply Grew.drew)⟩
      case measure => simp [intOf]; omega
    · have hE : eqc d d' = false := eqc_false hdd
      have HDD := Lib.hid hdd
      clear hdd
      go_wp2
      go_region_held3 (fun w' => Grew wr w') (repeat (first | assumption | apply Grew.ext | apply Grew.alloc | apply Grew.drew | exact Grew.refl _)) (first | (go_at_call 18; refine (eqWire_any _ _ _ _ _ _ _ hrd hrd' (hGk.grew (by assumption)) (hGk'.grew (by assumption))).mono ?_; rintro e w' ⟨rfl, x7, rfl⟩))
      go_wp2
      go_ret
      exact Ret.mk (by rw [eqc_false (fun e : l = m => HDD.out (by have h1 := HD.out; have h2 := HD'.out; rw [e, h2] at h1; exact (Option.some.inj h1).symm))]; rfl) (by repeat (first | assumption | apply Grew.ext | apply Grew.drew))

end Go.Proofs.Ytddpdlggnbkpbaa

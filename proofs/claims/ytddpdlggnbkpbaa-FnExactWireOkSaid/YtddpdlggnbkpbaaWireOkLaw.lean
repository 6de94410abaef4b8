/-
  The law FnExactWireOk returns true whatever the argument, and the argument reads as it did: every input of the row, no further condition.
-/
import Derived.Test.YtddpdlggnbkpbaaOpens
import Derived.Test.YtddpdlggnbkpbaaWi
import Derived.Test.YtddpdlggnbkpbaaAid
namespace Go.Proofs.Ytddpdlggnbkpbaa
open Go.ChangeShapes Go.WideShapes Go.ChangeAt Go.RowKit
set_option maxHeartbeats 1000000
set_option linter.unusedVariables false
theorem FnExactWireOk_any (cs : List Value) (a : DWire) (f : Frag) (w : World) (hr : rdWire f cs a) (hf : Lies f w) :
    Calls Try.prog 4 #[.agg cs.toArray] w (Ret w (.bool true)) := by
  obtain ⟨p1, c1, rfl, _⟩ := id hr
  go_enter Try.func4, Try.ntmps4
  go_wp2_with fail
  refine (szWire_any _ _ _ _ _ hr (hf.alloc _) (by omega) (by omega)).mono ?_
  rintro e w' ⟨r1, rfl, hle1, H1, x1, rfl⟩
  by_cases hn : r1 < 0
  · go_wp2_with fail
    go_ret
    exact Ret.mk rfl (((Grew.refl _).alloc _).ext _)
  have hb : bulkWire a ≤ 1048576 := by have := H1.out; unfold szb at this; split at this <;> omega
  go_wp2_with fail
  refine (toWire_any _ _ _ _ hr ((hf.alloc _).ext _) hb).mono ?_
  rintro e w' hg
  obtain ⟨_, q1, y1, rfl, rfl, hs, hin1, ha, cs1, rfl, hO1⟩ := hg.mergeAt (n := w.heap.size + 1) (by simp)
  clear hg hs ha
  obtain ⟨z1p1, z1c1, _, rfl, _, _⟩ := id hO1
  go_wp2_with fail
  refine (specWireOk_any _ _ _ _ (ownWire_rd _ _ _ hO1) (hin1.lies (by simp))).mono ?_
  rintro e w' hm
  obtain ⟨rfl, y1b, rfl, _⟩ := Ret.merge hm
  clear hm
  go_wp2_with fail
  refine (toWire_any _ _ _ _ hr ((hf.alloc _).ext _) hb).mono ?_
  rintro e w' hg
  obtain ⟨_, q2, y2, rfl, rfl, hs, hin2, ha, cs2, rfl, hO2⟩ := hg.mergeAt (n := w.heap.size + 1) (by simp)
  clear hg hs ha
  obtain ⟨z2p1, z2c1, _, rfl, _, _⟩ := id hO2
  obtain ⟨N, hN⟩ : ∃ N, w.heap.size + 1 + y2.blocks.size = N := ⟨_, rfl⟩
  have l0 : w.heap.size < N := by omega
  have m0 : ¬ w.heap.size = N := by omega
  have n0 : ¬ N = w.heap.size := by omega
  go_wp2_with fail
  refine (implWireOk_any _ _ _ _ (ownWire_rd _ _ _ hO2) ((hin2.lies (by simp)).alloc _)).mono ?_
  rintro e w' ⟨rfl, x5, rfl⟩
  have l1 : w.heap.size < N + 1 := by omega
  have hb0 : (wireOk a != wireOk a) = false := by simp
  go_wp2_with fail
  refine wp_name (fun W hW => ?_)
  have hG : Grew w W := by rw [hW]; exact ((((Grew.refl _).alloc _).ext _).alloc _).ext _
  have hL : Lies f W := hf.grew hG
  have hL2 : Lies q2 W := by rw [hW]; exact ((hin2.lies (by simp)).alloc _).ext _
  have b0 := block_cells (W := W) (b := w.heap.size) (by rw [hW]; exact heap_ext_far (heap_alloc_far (heap_ext_far (heap_alloc_new _ _))))
  have b1 := block_cells (W := W) (b := N) (by rw [hW]; exact heap_ext_far (heap_alloc_at (by simp; omega)))
  clear hW
  have hE : eqc a a = true := eqc_true rfl
  go_region_held3 (fun w' => Grew W w') (repeat (first | assumption | apply Grew.ext | apply Grew.alloc | apply Grew.drew | exact Grew.refl _)) (first | (go_at_call 16; refine (toWire_any _ _ _ _ hr (hL.grew (by assumption)) hb).mono ?_; rintro e w' hg; obtain ⟨_, q5, x6, rfl, rfl, hin5, cs5, rfl, hO5⟩ := hg.out; obtain ⟨up1, uc1, _, rfl, _, _⟩ := id hO5) | (go_at_call 18; refine (eqWire_any _ _ _ _ _ _ _ (ownWire_rd _ _ _ hO2) (ownWire_rd _ _ _ (by assumption)) (hL2.grew (by assumption)) (In.lies (by assumption) rfl)).mono ?_; rintro e w' ⟨rfl, x7, rfl⟩))
  all_goals go_wp2_with fail
  all_goals go_ret
  all_goals exact Ret.mk rfl (by repeat (first | exact hG | apply Grew.ext | apply Grew.drew))
namespace FnExactWireOkL
set_option maxRecDepth 100000 in
theorem lifted (os : Os) (started : os.Started) (H : Type) (enc : TypeId × Value → H) :
    ReturnsInHanded {} Try.checked os 4 .any (Rows.fnExactWireOkSpec.pre6 enc Try.prog Try.f4 Rows.fnExactWireOkRow.domain false) (Rows.fnExactWireOkSpec.post enc Try.prog Try.f4 false true false false) := by
  refine returnsInHanded_of_change (C := Try.checked) own started (by kernel_rfl) Try.func4
    (ChangeSpec.witness6 (enc := enc) (C := Try.checked) false ⟨#[], #[.agg #[.int .i64 0, .int .i64 0, .int .i64 0, .int .i64 0, .slice none 0 0]], []⟩ 8 (by kernel_rfl) (by kernel_rfl) (by kernel_rfl) (by kernel_rfl)) ?_
  intro W base args ds gs before hval0 hW hcnd _
  have hval : ∀ (j : Nat) t v, Try.f4.params[j]? = some t → args[j]? = some v → Value.okWide Try.prog W .any base t v := hval0
  have hW' := hW
  obtain ⟨p, q, hA0, hV, rfl, hfz, hnd⟩ := hW
  have hA : DataW.TrodAll enc Try.prog W 0 (fun _ => true) true Try.f4.params.toList args.toList ds p := hA0
  have hAk : DataW.TrodAll enc Try.prog W 0 (fun _ => true) true Try.f4.params.toList args.toList ds p := hA0
  rw [Try.params4] at hA hval hAk
  obtain ⟨v0, vs0, d0, ds0, p0, q0, hargs0, rfl, rfl, h0, r0⟩ := trodAll_cons hA
  obtain ⟨rfl, rfl, rfl⟩ := trodAll_nil r0
  obtain rfl : args = #[v0] := by cases args; simp_all
  obtain ⟨rfl, rfl⟩ := trodVars_none hV
  simp only [List.append_nil] at hW'
  have hlt := DataW.TrodAll.lt hAk
  obtain ⟨c0, rfl, _⟩ := okWide_struct Try.underlying34 (hval 0 34 v0 rfl rfl)
  obtain ⟨fu0, hf0⟩ := h0
  obtain ⟨a0, hr0⟩ := opensWire _ _ _ _ _ _ _ _ _ hf0
  have hr0' : rdWire (whole W) c0.toList a0 := hr0
  have key : Calls Try.prog 4 #[.agg c0.toList.toArray] W (Ret W (.bool true)) := FnExactWireOk_any _ _ (whole W) W hr0 (lies_whole W)
  try simp only [Array.toArray_toList] at key
  refine key.mono fun e W' hR => ?_
  obtain ⟨he, hg⟩ := hR
  have hB := hg.below
  refine ⟨_, he, _, _, _, [], p0 ++ ([]), [], hW', ?_, ?_, rfl, hB.frame _, fun h => by cases h⟩
  · exact trodAll_mk1 (shut_bool Try.underlying4 _)
  · refine trodAll_below laidOut hB (fun t ht => ?_) hAk hlt
    have ht2 : t ∈ [34] := by rw [Try.params4] at ht; exact ht
    simp only [List.mem_cons, List.not_mem_nil, or_false] at ht2
    rcases ht2 with rfl
    all_goals exact ⟨by kernel_rfl, of_decide_eq_true (by kernel_rfl)⟩
theorem proved : Rows.FnExactWireOkSaid :=
  OpenClaim.holds_of_wide 4 Try.f4 rfl rfl rfl rfl rfl rfl rfl ⟨rfl, rfl, rfl, rfl, rfl⟩ rfl rfl rfl rfl rfl (by kernel_rfl) Try.func4 (by kernel_rfl)
    (of_decide_eq_true (by kernel_rfl)) (by unfold Func.isWrapper; first | (rw [if_pos (by decide +kernel)]; kernel_rfl) | (rw [if_neg (by decide +kernel)]; exact ⟨rfl, rfl⟩))
    (fun os started H enc _ => lifted os started H enc)
end FnExactWireOkL

end Go.Proofs.Ytddpdlggnbkpbaa

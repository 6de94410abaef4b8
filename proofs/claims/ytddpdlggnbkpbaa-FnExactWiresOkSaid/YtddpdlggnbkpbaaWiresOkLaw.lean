/-
  The law FnExactWiresOk returns true whatever the argument, and the argument reads as it did: every input of the row, no further condition.
-/
import Derived.Test.YtddpdlggnbkpbaaOpens
import Derived.Test.YtddpdlggnbkpbaaWi
import Derived.Test.YtddpdlggnbkpbaaList
namespace Go.Proofs.Ytddpdlggnbkpbaa
open Go.ChangeShapes Go.WideShapes Go.ChangeAt Go.RowKit
set_option maxHeartbeats 1000000
set_option linter.unusedVariables false
theorem FnExactWiresOk_any (p : Option Addr) (c : Nat) (a : List (DWire)) (f : Frag) (w : World) (hr : RdList 5 rdWire f (.slice p a.length c) a) (hf : Lies f w) :
    Calls Try.prog 5 #[.slice p a.length c] w (Ret w (.bool true)) := by
  go_enter Try.func5, Try.ntmps5
  go_wp2_with fail
  refine (szWireS_any _ _ _ _ _ hr hf (by omega) (by omega)).mono ?_
  rintro e w' ⟨r1, rfl, hle1, H1, x1, rfl⟩
  by_cases hn : r1 < 0
  · go_wp2_with fail
    go_ret
    exact Ret.mk rfl ((Grew.refl _).ext _)
  have hb : bulkL bulkWire a ≤ 1048576 := by have := H1.out; unfold szb at this; split at this <;> omega
  go_wp2_with fail
  refine (toWireS_any _ _ _ _ hr (hf.ext _) hb).mono ?_
  rintro e w' hg
  obtain ⟨_, q1, y1, rfl, rfl, hs, hin1, ha, hO1⟩ := hg.mergeAt (n := w.heap.size) rfl
  clear hg hs ha
  obtain ⟨z1p, z1c, rfl⟩ := OwnList.form hO1
  go_wp2_with fail
  refine (specWiresOk_any _ _ _ _ (OwnList.rd ownWire_rd rdWire_sub hO1) (hin1.lies rfl)).mono ?_
  rintro e w' hm
  obtain ⟨rfl, y1b, rfl, hs1⟩ := Ret.merge hm
  clear hm
  go_wp2_with fail
  refine (toWireS_any _ _ _ _ hr (hf.ext _) hb).mono ?_
  rintro e w' hg
  obtain ⟨_, q2, y2, rfl, rfl, hs, hin2, ha, hO2⟩ := hg.mergeAt (n := w.heap.size) rfl
  clear hg hs ha
  obtain ⟨z2p, z2c, rfl⟩ := OwnList.form hO2
  go_wp2_with fail
  refine (implWiresOk_any _ _ _ _ (OwnList.rd ownWire_rd rdWire_sub hO2) (hin2.lies rfl)).mono ?_
  rintro e w' hm
  obtain ⟨rfl, y2b, rfl, hs2⟩ := Ret.merge hm
  clear hm
  replace hin2 := hin2.mono hs2
  have hb0 : (wiresOk a != wiresOk a) = false := by simp
  have hE : eqc a a = true := eqc_true rfl
  go_wp2_with fail
  refine (toWireS_any _ _ _ _ hr (hf.ext _) hb).mono ?_
  rintro e w' hg
  obtain ⟨_, q3, y3, rfl, rfl, hs, hin3, ha, hO3⟩ := hg.mergeAt (n := w.heap.size) rfl
  clear hg ha
  obtain ⟨z3p, z3c, rfl⟩ := OwnList.form hO3
  go_wp2_with fail
  refine (eqWireS_any _ _ _ _ _ _ _ (OwnList.rd ownWire_rd rdWire_sub hO2) (OwnList.rd ownWire_rd rdWire_sub hO3) ((hin2.mono hs).lies rfl) (hin3.lies rfl)).mono ?_
  rintro e w' ⟨rfl, x7, rfl⟩
  go_wp2_with fail
  go_ret
  exact Ret.mk rfl (((Grew.refl _).ext _).ext _)
namespace FnExactWiresOkL
set_option maxRecDepth 100000 in
theorem lifted (os : Os) (started : os.Started) (H : Type) (enc : TypeId × Value → H) :
    ReturnsInHanded {} Try.checked os 5 .any (Rows.fnExactWiresOkSpec.pre6 enc Try.prog Try.f5 Rows.fnExactWiresOkRow.domain false) (Rows.fnExactWiresOkSpec.post enc Try.prog Try.f5 false true false false) := by
  refine returnsInHanded_of_change (C := Try.checked) own started (by kernel_rfl) Try.func5
    (ChangeSpec.witness6 (enc := enc) (C := Try.checked) false ⟨#[], #[.slice none 0 0], []⟩ 8 (by kernel_rfl) (by kernel_rfl) (by kernel_rfl) (by kernel_rfl)) ?_
  intro W base args ds gs before hval0 hW hcnd _
  have hval : ∀ (j : Nat) t v, Try.f5.params[j]? = some t → args[j]? = some v → Value.okWide Try.prog W .any base t v := hval0
  have hW' := hW
  obtain ⟨p, q, hA0, hV, rfl, hfz, hnd⟩ := hW
  have hA : DataW.TrodAll enc Try.prog W 0 (fun _ => true) true Try.f5.params.toList args.toList ds p := hA0
  have hAk : DataW.TrodAll enc Try.prog W 0 (fun _ => true) true Try.f5.params.toList args.toList ds p := hA0
  rw [Try.params5] at hA hval hAk
  obtain ⟨v0, vs0, d0, ds0, p0, q0, hargs0, rfl, rfl, h0, r0⟩ := trodAll_cons hA
  obtain ⟨rfl, rfl, rfl⟩ := trodAll_nil r0
  obtain rfl : args = #[v0] := by cases args; simp_all
  obtain ⟨rfl, rfl⟩ := trodVars_none hV
  simp only [List.append_nil] at hW'
  have hlt := DataW.TrodAll.lt hAk
  obtain ⟨z0, len0, cap0, rfl⟩ := okWide_slice Try.underlying43 (hval 0 43 v0 rfl rfl)
  obtain ⟨fu0, hf0⟩ := h0
  obtain ⟨a0, y0, k0, e0, hr0⟩ := (opens_slice Try.underlying43 cellsOf34 (by omega) opensWire) _ _ _ _ _ _ _ _ _ hf0
  obtain ⟨rfl, rfl, rfl⟩ : z0 = y0 ∧ len0 = a0.length ∧ cap0 = k0 := by simpa [Value.cells] using e0
  have key : Calls Try.prog 5 #[.slice z0 a0.length cap0] W (Ret W (.bool true)) := FnExactWiresOk_any _ _ _ (whole W) W hr0 (lies_whole W)
  try simp only [Array.toArray_toList] at key
  refine key.mono fun e W' hR => ?_
  obtain ⟨he, hg⟩ := hR
  have hB := hg.below
  refine ⟨_, he, _, _, _, [], p0 ++ ([]), [], hW', ?_, ?_, rfl, hB.frame _, fun h => by cases h⟩
  · exact trodAll_mk1 (shut_bool Try.underlying4 _)
  · refine trodAll_below laidOut hB (fun t ht => ?_) hAk hlt
    have ht2 : t ∈ [43] := by rw [Try.params5] at ht; exact ht
    simp only [List.mem_cons, List.not_mem_nil, or_false] at ht2
    rcases ht2 with rfl
    all_goals exact ⟨by kernel_rfl, of_decide_eq_true (by kernel_rfl)⟩
theorem proved : Rows.FnExactWiresOkSaid :=
  OpenClaim.holds_of_wide 5 Try.f5 rfl rfl rfl rfl rfl rfl rfl ⟨rfl, rfl, rfl, rfl, rfl⟩ rfl rfl rfl rfl rfl (by kernel_rfl) Try.func5 (by kernel_rfl)
    (of_decide_eq_true (by kernel_rfl)) (by unfold Func.isWrapper; first | (rw [if_pos (by decide +kernel)]; kernel_rfl) | (rw [if_neg (by decide +kernel)]; exact ⟨rfl, rfl⟩))
    (fun os started H enc _ => lifted os started H enc)
end FnExactWiresOkL

end Go.Proofs.Ytddpdlggnbkpbaa

/-
  The law FnExactServerNew returns true whatever the arguments, and the arguments read as they did: every input of the row, no further condition.
-/
import Derived.Test.YtfdfaefafbnceaaGreatRows
import Derived.Test.YtfdfaefafbnceaaGreatP0
import Derived.Test.YtfdfaefafbnceaaGreatL15
import Derived.KernelRfl
namespace Go.Proofs.YtfdfaefafbnceaaGreat
open Go.ChangeShapes Go.WideShapes Go.ChangeAt Go.RowKit
set_option maxHeartbeats 4000000
theorem own : ownKnob Tryz.prog.godebug = none := by kernel_rfl
theorem laidOut : laidOutB Tryz.prog = true := by kernel_rfl
set_option linter.unusedVariables false
theorem val_FnExactServerNew (d : aden P_l_FnExactServerNew) (hw : WfA P_l_FnExactServerNew d) : (T_l_FnExactServerNew d.1 d.2.1 d.2.2.1).val = some (true, ()) := by
  have h : wfDs [.sl 25 [.sl 5 [.int .u8]]] d.1 ∧ wfDs [.sl 5 [.int .u8]] d.2.1 ∧ wfDs [.int .i64] d.2.2.1 ∧ True := hw
  exact law_ServerNew d.1 d.2.1 d.2.2.1 (lw_1 d.1 h.1)
namespace FnExactServerNewL
set_option maxRecDepth 100000 in
theorem lifted (os : Os) (started : os.Started) (H : Type) (enc : TypeId × Value → H) :
    ReturnsInHanded {} Tryz.checked os 7 .any (Rows.fnExactServerNewSpec.pre6 enc Tryz.prog Tryz.f7 Rows.fnExactServerNewRow.domain false) (Rows.fnExactServerNewSpec.post enc Tryz.prog Tryz.f7 false true false false) := by
  refine returnsInHanded_of_change (C := Tryz.checked) own started (by kernel_rfl) Tryz.func7
    (ChangeSpec.witness6 (enc := enc) (C := Tryz.checked) false ⟨#[], #[.slice none 0 0, .slice none 0 0, .int .i64 0], []⟩ 8 (by kernel_rfl) (by kernel_rfl) (by kernel_rfl) (by kernel_rfl)) ?_
  intro W base args ds gs before hval0 hW hcnd _
  have hval : ∀ (j : Nat) t v, Tryz.f7.params[j]? = some t → args[j]? = some v → Value.okWide Tryz.prog W .any base t v := hval0
  have hW' := hW
  obtain ⟨p, q, hA0, hV, rfl, hfz, hnd⟩ := hW
  have hA : DataW.TrodAll enc Tryz.prog W 0 (fun _ => true) true Tryz.f7.params.toList args.toList ds p := hA0
  have hAk : DataW.TrodAll enc Tryz.prog W 0 (fun _ => true) true Tryz.f7.params.toList args.toList ds p := hA0
  rw [Tryz.params7] at hA hval hAk
  obtain ⟨v0, vs0, d0, ds0, p0, q0, hargs0, rfl, rfl, h0, r0⟩ := trodAll_cons hA
  obtain ⟨v1, vs1, d1, ds1, p1, q1, hargs1, rfl, rfl, h1, r1⟩ := trodAll_cons r0
  subst hargs1
  obtain ⟨v2, vs2, d2, ds2, p2, q2, hargs2, rfl, rfl, h2, r2⟩ := trodAll_cons r1
  subst hargs2
  obtain ⟨rfl, rfl, rfl⟩ := trodAll_nil r2
  obtain rfl : args = #[v0, v1, v2] := by cases args; simp_all
  obtain ⟨rfl, rfl⟩ := trodVars_none hV
  simp only [List.append_nil] at hW'
  have hlt := DataW.TrodAll.lt hAk
  obtain ⟨x0, y0⟩ := rvv_of (P := Tryz.prog) (t := 101) (p := (false, [.sl 25 [.sl 5 [.int .u8]]])) (by kernel_rfl) (hval 0 101 v0 rfl rfl) h0
  obtain ⟨x1, y1⟩ := rvv_of (P := Tryz.prog) (t := 25) (p := (false, [.sl 5 [.int .u8]])) (by kernel_rfl) (hval 1 25 v1 rfl rfl) h1
  obtain ⟨x2, y2⟩ := rvv_of (P := Tryz.prog) (t := 3) (p := (false, [.int .i64])) (by kernel_rfl) (hval 2 3 v2 rfl rfl) h2
  have key : Calls Tryz.prog 7 #[v0, v1, v2] W (Ret W (.bool true)) := law_call (ps := P_l_FnExactServerNew) (V := fun d => (T_l_FnExactServerNew d.1 d.2.1 d.2.2.1).val) (rvs := O_l_FnExactServerNew) fn_l_FnExactServerNew rfl (fun d h => val_FnExactServerNew d h) (d := (x0, x1, x2, ())) (vs := [v0, v1, v2]) ⟨y0, y1, y2, trivial⟩
  refine key.mono fun e W' hR => ?_
  obtain ⟨he, hg⟩ := hR
  have hB := hg.below
  refine ⟨_, he, _, _, _, [], p0 ++ (p1 ++ (p2 ++ ([]))), [], hW', ?_, ?_, rfl, hB.frame _, fun h => by cases h⟩
  · exact trodAll_mk1 (shut_bool Tryz.underlying4 _)
  · refine trodAll_below laidOut hB (fun t ht => ?_) hAk hlt
    have ht2 : t ∈ [101, 25, 3] := by rw [Tryz.params7] at ht; exact ht
    simp only [List.mem_cons, List.not_mem_nil, or_false] at ht2
    rcases ht2 with rfl | rfl | rfl
    all_goals exact ⟨by kernel_rfl, of_decide_eq_true (by kernel_rfl)⟩
theorem proved : Rows.FnExactServerNewSaid :=
  OpenClaim.holds_of_wide 7 Tryz.f7 rfl rfl rfl rfl rfl rfl rfl ⟨rfl, rfl, rfl, rfl, rfl⟩ rfl rfl rfl rfl rfl (by kernel_rfl) Tryz.func7 (by kernel_rfl)
    (of_decide_eq_true (by kernel_rfl)) (by unfold Func.isWrapper; first | (rw [if_pos (by decide +kernel)]; kernel_rfl) | (rw [if_neg (by decide +kernel)]; exact ⟨rfl, rfl⟩))
    (fun os started H enc _ => lifted os started H enc)
end FnExactServerNewL
end Go.Proofs.YtfdfaefafbnceaaGreat

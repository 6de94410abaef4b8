/-
  The law FnExactServerTick returns true whatever the arguments, and the arguments read as they did: every input of the row, no further condition.
-/
import Derived.Test.YtndbndcibmfgdaaGreatRows
import Derived.Test.YtndbndcibmfgdaaGreatP0
import Derived.Test.YtndbndcibmfgdaaGreatL25
import Derived.KernelRfl
namespace Go.Proofs.YtndbndcibmfgdaaGreat
open Go.ChangeShapes Go.WideShapes Go.ChangeAt Go.RowKit
set_option maxHeartbeats 4000000
theorem own : ownKnob Tryz.prog.godebug = none := by kernel_rfl
theorem laidOut : laidOutB Tryz.prog = true := by kernel_rfl
set_option linter.unusedVariables false
theorem val_FnExactServerTick (d : aden P_l_FnExactServerTick) (hw : WfA P_l_FnExactServerTick d) : (T_l_FnExactServerTick d.1 d.2.1).val = some (true, ()) := by
  have h : wfDs [.sl 35 [.sl 5 [.int .u8]], .sl 5 [.int .u8], .sl 5 [.int .u8], .int .i64, .int .i64, .sl 71 [.int .i64, .sl 5 [.int .u8], .sl 5 [.int .u8], .int .i64, .sl 5 [.int .u8], .int .i64, .sl 5 [.int .u8], .int .i64, .int .i64, .sl 3 [.int .i64], .int .i64, .sl 5 [.int .u8], .int .i64, .int .i64, .sl 3 [.int .i64], .bool, .int .i64, .sl 5 [.int .u8], .int .i64, .int .i64, .sl 263 [.int .i64, .int .i64, .sl 5 [.int .u8], .int .i64], .int .i64, .int .i64, .bool], .sl 207 [.int .i64, .int .i64, .int .i64, .int .i64]] d.1 ∧ wfDs [.int .i64] d.2.1 ∧ True := hw
  exact law_ServerTick d.1 d.2.1 (lw_3 d.1 h.1)
theorem mapsR : mapsRowed Tryz.prog = true := by kernel_rfl
theorem ent : Program.mayEnter Tryz.prog = true := by kernel_rfl
theorem hea : Program.stopsHeard Tryz.prog = true := by kernel_rfl
namespace FnExactServerTickL
section
set_option maxRecDepth 100000
theorem k0 : (Rows.fnExactServerTickRow.inPlace == Tryz.prog.inPlace 4) = true := by kernel_rfl
theorem k1 : (Rows.fnExactServerTickRow.unfollowed == Tryz.prog.unfollowed 4) = true := by kernel_rfl
theorem k2 : (Rows.fnExactServerTickRow.recurses == Tryz.prog.recurses 4) = true := by kernel_rfl
theorem k3 : (Rows.fnExactServerTickRow.named == Tryz.prog.varsNamed 4) = true := by kernel_rfl
theorem k4 : (Rows.fnExactServerTickRow.plainKeys == Tryz.prog.plainKeys) = true := by kernel_rfl
theorem k5 : (Rows.fnExactServerTickRow.lifted == Tryz.prog.liftsFinal) = true := by kernel_rfl
theorem closed : joinedFacts Tryz.prog 4 Tryz.f4 Rows.fnExactServerTickSpec Rows.fnExactServerTickRow = true := by
  unfold joinedFacts
  rw [laidOut, mapsR, k0, k1, k2, k3, k4, k5, ent, hea]
  kernel_rfl
theorem nm : Tryz.pinned.checked.prog.funcNamed Rows.fnExactServerTickRow.func = some 4 := by kernel_rfl
end
set_option maxRecDepth 100000 in
theorem lifted (os : Os) (started : os.Started) (H : Type) (enc : TypeId × Value → H) :
    ReturnsInHanded {} Tryz.checked os 4 .any (Rows.fnExactServerTickSpec.pre6 enc Tryz.prog Tryz.f4 Rows.fnExactServerTickRow.domain false) (Rows.fnExactServerTickSpec.post enc Tryz.prog Tryz.f4 false true false false) := by
  refine returnsInHanded_of_change (C := Tryz.checked) own started (by kernel_rfl) Tryz.func4
    (ChangeSpec.witness6 (enc := enc) (C := Tryz.checked) false ⟨#[], #[.agg #[.slice none 0 0, .slice none 0 0, .slice none 0 0, .int .i64 0, .int .i64 0, .slice none 0 0, .slice none 0 0], .int .i64 0], []⟩ 8 (by kernel_rfl) (by kernel_rfl) (by kernel_rfl) (by kernel_rfl)) ?_
  intro W base args ds gs before hval0 hW hcnd _
  have hval : ∀ (j : Nat) t v, Tryz.f4.params[j]? = some t → args[j]? = some v → Value.okWide Tryz.prog W .any base t v := hval0
  have hW' := hW
  obtain ⟨p, q, hA0, hV, rfl, hfz, hnd⟩ := hW
  have hA : DataW.TrodAll enc Tryz.prog W 0 (fun _ => true) true Tryz.f4.params.toList args.toList ds p := hA0
  have hAk : DataW.TrodAll enc Tryz.prog W 0 (fun _ => true) true Tryz.f4.params.toList args.toList ds p := hA0
  rw [Tryz.params4] at hA hval hAk
  obtain ⟨v0, vs0, d0, ds0, p0, q0, hargs0, rfl, rfl, h0, r0⟩ := trodAll_cons hA
  obtain ⟨v1, vs1, d1, ds1, p1, q1, hargs1, rfl, rfl, h1, r1⟩ := trodAll_cons r0
  subst hargs1
  obtain ⟨rfl, rfl, rfl⟩ := trodAll_nil r1
  obtain rfl : args = #[v0, v1] := by cases args; simp_all
  obtain ⟨rfl, rfl⟩ := trodVars_none hV
  simp only [List.append_nil] at hW'
  have hlt := DataW.TrodAll.lt hAk
  obtain ⟨x0, y0⟩ := rvv_of (P := Tryz.prog) (t := 42) (p := (true, h_13)) (by kernel_rfl) (hval 0 42 v0 rfl rfl) h0
  obtain ⟨x1, y1⟩ := rvv_of (P := Tryz.prog) (t := 3) (p := (false, [.int .i64])) (by kernel_rfl) (hval 1 3 v1 rfl rfl) h1
  have key : Calls Tryz.prog 4 #[v0, v1] W (Ret W (.bool true)) := law_call (ps := P_l_FnExactServerTick) (V := fun d => (T_l_FnExactServerTick d.1 d.2.1).val) (rvs := O_l_FnExactServerTick) fn_l_FnExactServerTick rfl (fun d h => val_FnExactServerTick d h) (d := (x0, x1, ())) (vs := [v0, v1]) ⟨y0, y1, trivial⟩
  refine key.mono fun e W' hR => ?_
  obtain ⟨he, hg⟩ := hR
  have hB := hg.below
  refine ⟨_, he, _, _, _, [], p0 ++ (p1 ++ ([])), [], hW', ?_, ?_, rfl, hB.frame _, fun h => by cases h⟩
  · exact trodAll_mk1 (shut_bool Tryz.underlying4 _)
  · refine trodAll_below laidOut hB (fun t ht => ?_) hAk hlt
    have ht2 : t ∈ [42, 3] := by rw [Tryz.params4] at ht; exact ht
    simp only [List.mem_cons, List.not_mem_nil, or_false] at ht2
    rcases ht2 with rfl | rfl
    all_goals exact ⟨by kernel_rfl, of_decide_eq_true (by kernel_rfl)⟩
theorem proved : Rows.FnExactServerTickSaid :=
  OpenClaim.holds_of_wide 4 Tryz.f4 rfl rfl rfl rfl rfl rfl rfl ⟨rfl, rfl, rfl, rfl, rfl⟩ rfl rfl rfl rfl rfl nm Tryz.func4 closed
    (of_decide_eq_true (by kernel_rfl)) (by unfold Func.isWrapper; first | (rw [if_pos (by decide +kernel)]; kernel_rfl) | (rw [if_neg (by decide +kernel)]; exact ⟨rfl, rfl⟩))
    (fun os started H enc _ => lifted os started H enc)
end FnExactServerTickL
end Go.Proofs.YtndbndcibmfgdaaGreat

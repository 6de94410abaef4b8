/-
  The law FnExactSessHear returns true whatever the arguments, and the arguments read as they did: every input of the row, no further condition.
-/
import Derived.Test.YtggdikabbngbaaaGreatRows
import Derived.Test.YtggdikabbngbaaaGreatP0
import Derived.Test.YtggdikabbngbaaaGreatL39
import Derived.KernelRfl
namespace Go.Proofs.YtggdikabbngbaaaGreat
open Go.ChangeShapes Go.WideShapes Go.ChangeAt Go.RowKit
set_option maxHeartbeats 4000000
theorem own : ownKnob Tryz.prog.godebug = none := by kernel_rfl
theorem laidOut : laidOutB Tryz.prog = true := by kernel_rfl
set_option linter.unusedVariables false
theorem Aof (d : Bw Ei) (hw : WfA Ei d) : (D3 d.1 d.2.1 d.2.2.1 d.2.2.2.1 d.2.2.2.2.1).val = some (true, ()) := by
 have h : Fr [.int .i64, .sl 5 [.int .u8], .sl 5 [.int .u8], .int .i64, .sl 5 [.int .u8], .int .i64, .sl 5 [.int .u8], .int .i64, .int .i64, .sl 3 [.int .i64], .int .i64, .sl 5 [.int .u8], .int .i64, .int .i64, .sl 3 [.int .i64], .bool, .int .i64, .sl 5 [.int .u8], .int .i64, .int .i64, .sl 361 [.int .i64, .int .i64, .sl 5 [.int .u8], .int .i64], .int .i64, .int .i64, .bool] d.1 ∧ Fr [.int .i64] d.2.1 ∧ Fr [.int .i64, .int .i64] d.2.2.1 ∧ Fr [.int .i64, .int .i64, .sl 5 [.int .u8], .sl 5 [.int .u8], .int .i64, .sl 5 [.int .u8], .sl 5 [.int .u8], .int .i64, .int .i64, .sl 5 [.int .u8], .sl 5 [.int .u8]] d.2.2.2.1 ∧ Fr [.sl 5 [.int .u8]] d.2.2.2.2.1 ∧ True := hw
 exact Bbo d.1 d.2.1 d.2.2.1 d.2.2.2.1 d.2.2.2.2.1 (Bqa d.1 h.1) (Bqb d.2.2.2.1 h.2.2.2.1) h.1 h.2.1 h.2.2.1 h.2.2.2.1 h.2.2.2.2.1
theorem mapsR : mapsRowed Tryz.prog = true := by kernel_rfl
theorem ent : Program.mayEnter Tryz.prog = true := by kernel_rfl
theorem hea : Program.stopsHeard Tryz.prog = true := by kernel_rfl
namespace FnExactSessHearL
section
set_option maxRecDepth 100000
theorem k0 : (Rows.fnExactSessHearRow.inPlace == Tryz.prog.inPlace 9) = true := by kernel_rfl
theorem k1 : (Rows.fnExactSessHearRow.unfollowed == Tryz.prog.unfollowed 9) = true := by kernel_rfl
theorem k2 : (Rows.fnExactSessHearRow.recurses == Tryz.prog.recurses 9) = true := by kernel_rfl
theorem k3 : (Rows.fnExactSessHearRow.named == Tryz.prog.varsNamed 9) = true := by kernel_rfl
theorem k4 : (Rows.fnExactSessHearRow.plainKeys == Tryz.prog.plainKeys) = true := by kernel_rfl
theorem k5 : (Rows.fnExactSessHearRow.lifted == Tryz.prog.liftsFinal) = true := by kernel_rfl
theorem closed : joinedFacts Tryz.prog 9 Tryz.f9 Rows.fnExactSessHearSpec Rows.fnExactSessHearRow = true := by
 unfold joinedFacts
 rw [laidOut, mapsR, k0, k1, k2, k3, k4, k5, ent, hea]
 kernel_rfl
theorem nm : Tryz.pinned.checked.prog.funcNamed Rows.fnExactSessHearRow.func = some 9 := by kernel_rfl
end
set_option maxRecDepth 100000 in
theorem lifted (os : Os) (started : os.Started) (H : Type) (enc : TypeId × Value → H) :
  ReturnsInHanded {} Tryz.checked os 9 .any (Rows.fnExactSessHearSpec.pre6 enc Tryz.prog Tryz.f9 Rows.fnExactSessHearRow.domain false) (Rows.fnExactSessHearSpec.post enc Tryz.prog Tryz.f9 false true false false) := by
 refine returnsInHanded_of_change (C := Tryz.checked) own started (by kernel_rfl) Tryz.func9
  (ChangeSpec.witness6 (enc := enc) (C := Tryz.checked) false ⟨#[], #[.agg #[.int .i64 0, .slice none 0 0, .slice none 0 0, .int .i64 0, .slice none 0 0, .int .i64 0, .slice none 0 0, .int .i64 0, .int .i64 0, .slice none 0 0, .int .i64 0, .slice none 0 0, .int .i64 0, .int .i64 0, .slice none 0 0, .bool false, .int .i64 0, .slice none 0 0, .int .i64 0, .int .i64 0, .slice none 0 0, .int .i64 0, .int .i64 0, .bool false], .int .i64 0, .agg #[.int .i64 0, .int .i64 0], .agg #[.int .i64 0, .int .i64 0, .slice none 0 0, .slice none 0 0, .int .i64 0, .slice none 0 0, .slice none 0 0, .int .i64 0, .int .i64 0, .slice none 0 0, .slice none 0 0], .slice none 0 0], []⟩ 8 (by kernel_rfl) (by kernel_rfl) (by kernel_rfl) (by kernel_rfl)) ?_
 intro W base args ds gs before hval0 hW hcnd _
 have hval : ∀ (j : Nat) t v, Tryz.f9.params[j]? = some t → args[j]? = some v → Value.okWide Tryz.prog W .any base t v := hval0
 have hW' := hW
 obtain ⟨p, q, hA0, hV, rfl, hfz, hnd⟩ := hW
 have hA : DataW.TrodAll enc Tryz.prog W 0 (fun _ => true) true Tryz.f9.params.toList args.toList ds p := hA0
 have hAk : DataW.TrodAll enc Tryz.prog W 0 (fun _ => true) true Tryz.f9.params.toList args.toList ds p := hA0
 rw [Tryz.params9] at hA hval hAk
 obtain ⟨v0, vs0, d0, ds0, p0, q0, hargs0, rfl, rfl, h0, r0⟩ := trodAll_cons hA
 obtain ⟨v1, vs1, d1, ds1, p1, q1, hargs1, rfl, rfl, h1, r1⟩ := trodAll_cons r0
 subst hargs1
 obtain ⟨v2, vs2, d2, ds2, p2, q2, hargs2, rfl, rfl, h2, r2⟩ := trodAll_cons r1
 subst hargs2
 obtain ⟨v3, vs3, d3, ds3, p3, q3, hargs3, rfl, rfl, h3, r3⟩ := trodAll_cons r2
 subst hargs3
 obtain ⟨v4, vs4, d4, ds4, p4, q4, hargs4, rfl, rfl, h4, r4⟩ := trodAll_cons r3
 subst hargs4
 obtain ⟨rfl, rfl, rfl⟩ := trodAll_nil r4
 obtain rfl : args = #[v0, v1, v2, v3, v4] := by cases args; simp_all
 obtain ⟨rfl, rfl⟩ := trodVars_none hV
 simp only [List.append_nil] at hW'
 have hlt := DataW.TrodAll.lt hAk
 obtain ⟨x0, y0⟩ := Arx (P := Tryz.prog) (t := 138) (p := (true, A2z)) (by kernel_rfl) (hval 0 138 v0 rfl rfl) h0
 obtain ⟨x1, y1⟩ := Arx (P := Tryz.prog) (t := 3) (p := (false, [.int .i64])) (by kernel_rfl) (hval 1 3 v1 rfl rfl) h1
 obtain ⟨x2, y2⟩ := Arx (P := Tryz.prog) (t := 58) (p := (true, [.int .i64, .int .i64])) (by kernel_rfl) (hval 2 58 v2 rfl rfl) h2
 obtain ⟨x3, y3⟩ := Arx (P := Tryz.prog) (t := 116) (p := (true, D5)) (by kernel_rfl) (hval 3 116 v3 rfl rfl) h3
 obtain ⟨x4, y4⟩ := Arx (P := Tryz.prog) (t := 22) (p := (false, [.sl 5 [.int .u8]])) (by kernel_rfl) (hval 4 22 v4 rfl rfl) h4
 have key : Calls Tryz.prog 9 #[v0, v1, v2, v3, v4] W (Ret W (.bool true)) := Bmi (ps := Ei) (V := fun d => (D3 d.1 d.2.1 d.2.2.1 d.2.2.2.1 d.2.2.2.2.1).val) (rvs := Mp) Alj rfl (fun d h => Aof d h) (d := (x0, x1, x2, x3, x4, ())) (vs := [v0, v1, v2, v3, v4]) ⟨y0, y1, y2, y3, y4, trivial⟩
 refine key.mono fun e W' hR => ?_
 obtain ⟨he, hg⟩ := hR
 have hB := hg.below
 refine ⟨_, he, _, _, _, [], p0 ++ (p1 ++ (p2 ++ (p3 ++ (p4 ++ ([]))))), [], hW', ?_, ?_, rfl, hB.frame _, fun h => by cases h⟩
 ·exact trodAll_mk1 (shut_bool Tryz.underlying4 _)
 ·refine An7 laidOut hB (fun t ht => ?_) hAk hlt
  have ht2 : t ∈ [138, 3, 58, 116, 22] := by rw [Tryz.params9] at ht; exact ht
  simp only [List.mem_cons, List.not_mem_nil, or_false] at ht2
  rcases ht2 with rfl | rfl | rfl | rfl | rfl
  all_goals exact ⟨by kernel_rfl, of_decide_eq_true (by kernel_rfl)⟩
theorem proved : Rows.FnExactSessHearSaid :=
 OpenClaim.holds_of_wide 9 Tryz.f9 rfl rfl rfl rfl rfl rfl rfl ⟨rfl, rfl, rfl, rfl, rfl⟩ rfl rfl rfl rfl rfl nm Tryz.func9 closed
  (of_decide_eq_true (by kernel_rfl)) (by unfold Func.isWrapper; first | (rw [if_pos (by decide +kernel)]; kernel_rfl) | (rw [if_neg (by decide +kernel)]; exact ⟨rfl, rfl⟩))
  (fun os started H enc _ => lifted os started H enc)
end FnExactSessHearL
end Go.Proofs.YtggdikabbngbaaaGreat

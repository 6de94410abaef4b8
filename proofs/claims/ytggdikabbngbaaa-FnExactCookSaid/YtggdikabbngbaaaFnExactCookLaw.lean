/-
  The law FnExactCook returns true whatever the arguments, and the arguments read as they did: every input of the row, no further condition.
-/
import Derived.Test.YtggdikabbngbaaaRows
import Derived.Test.YtggdikabbngbaaaP0
import Derived.Test.YtggdikabbngbaaaL51
import Derived.KernelRfl
namespace Go.Proofs.Ytggdikabbngbaaa
open Go.ChangeShapes Go.WideShapes Go.ChangeAt Go.RowKit
set_option maxHeartbeats 4000000
theorem own : ownKnob Try.prog.godebug = none := by kernel_rfl
theorem laidOut : laidOutB Try.prog = true := by kernel_rfl
set_option linter.unusedVariables false
theorem Afj (d : Bj Dv) (hw : WfA Dv d) : (C0 d.1 d.2.1 d.2.2.1).val = some (true, ()) := by
 have h : Ey [.sl 92 [.int .i64, .int .i64, .int .i64, .sl 5 [.int .u8]]] d.1 ∧ Ey [.sl 96 [.int .i64, .int .i64, .int .i64, .int .i64, .sl 5 [.int .u8]]] d.2.1 ∧ Ey [.sl 22 [.sl 5 [.int .u8]]] d.2.2.1 ∧ True := hw
 exact At6 d.1 d.2.1 d.2.2.1 (Axg d.1 h.1) (Axi d.2.1 h.2.1) (Axk d.2.2.1 h.2.2.1)
theorem mapsR : mapsRowed Try.prog = true := by kernel_rfl
theorem ent : Program.mayEnter Try.prog = true := by kernel_rfl
theorem hea : Program.stopsHeard Try.prog = true := by kernel_rfl
namespace FnExactCookL
section
set_option maxRecDepth 100000
theorem k0 : (Rows.fnExactCookRow.inPlace == Try.prog.inPlace 5) = true := by kernel_rfl
theorem k1 : (Rows.fnExactCookRow.unfollowed == Try.prog.unfollowed 5) = true := by kernel_rfl
theorem k2 : (Rows.fnExactCookRow.recurses == Try.prog.recurses 5) = true := by kernel_rfl
theorem k3 : (Rows.fnExactCookRow.named == Try.prog.varsNamed 5) = true := by kernel_rfl
theorem k4 : (Rows.fnExactCookRow.plainKeys == Try.prog.plainKeys) = true := by kernel_rfl
theorem k5 : (Rows.fnExactCookRow.lifted == Try.prog.liftsFinal) = true := by kernel_rfl
theorem closed : joinedFacts Try.prog 5 Try.f5 Rows.fnExactCookSpec Rows.fnExactCookRow = true := by
 unfold joinedFacts
 rw [laidOut, mapsR, k0, k1, k2, k3, k4, k5, ent, hea]
 kernel_rfl
theorem nm : Try.pinned.checked.prog.funcNamed Rows.fnExactCookRow.func = some 5 := by kernel_rfl
end
set_option maxRecDepth 100000 in
theorem lifted (os : Os) (started : os.Started) (H : Type) (enc : TypeId × Value → H) :
  ReturnsInHanded {} Try.checked os 5 .any (Rows.fnExactCookSpec.pre6 enc Try.prog Try.f5 Rows.fnExactCookRow.domain false) (Rows.fnExactCookSpec.post enc Try.prog Try.f5 false true false false) := by
 refine returnsInHanded_of_change (C := Try.checked) own started (by kernel_rfl) Try.func5
  (ChangeSpec.witness6 (enc := enc) (C := Try.checked) false ⟨#[], #[.slice none 0 0, .slice none 0 0, .slice none 0 0], []⟩ 8 (by kernel_rfl) (by kernel_rfl) (by kernel_rfl) (by kernel_rfl)) ?_
 intro W base args ds gs before hval0 hW hcnd _
 have hval : ∀ (j : Nat) t v, Try.f5.params[j]? = some t → args[j]? = some v → Value.okWide Try.prog W .any base t v := hval0
 have hW' := hW
 obtain ⟨p, q, hA0, hV, rfl, hfz, hnd⟩ := hW
 have hA : DataW.TrodAll enc Try.prog W 0 (fun _ => true) true Try.f5.params.toList args.toList ds p := hA0
 have hAk : DataW.TrodAll enc Try.prog W 0 (fun _ => true) true Try.f5.params.toList args.toList ds p := hA0
 rw [Try.params5] at hA hval hAk
 obtain ⟨v0, vs0, d0, ds0, p0, q0, hargs0, rfl, rfl, h0, r0⟩ := trodAll_cons hA
 obtain ⟨v1, vs1, d1, ds1, p1, q1, hargs1, rfl, rfl, h1, r1⟩ := trodAll_cons r0
 subst hargs1
 obtain ⟨v2, vs2, d2, ds2, p2, q2, hargs2, rfl, rfl, h2, r2⟩ := trodAll_cons r1
 subst hargs2
 obtain ⟨rfl, rfl, rfl⟩ := trodAll_nil r2
 obtain rfl : args = #[v0, v1, v2] := by cases args; simp_all
 obtain ⟨rfl, rfl⟩ := trodVars_none hV
 simp only [List.append_nil] at hW'
 have hlt := DataW.TrodAll.lt hAk
 obtain ⟨x0, y0⟩ := Al9 (P := Try.prog) (t := 44) (p := (false, [.sl 92 h_3])) (by kernel_rfl) (hval 0 44 v0 rfl rfl) h0
 obtain ⟨x1, y1⟩ := Al9 (P := Try.prog) (t := 45) (p := (false, [.sl 96 h_4])) (by kernel_rfl) (hval 1 45 v1 rfl rfl) h1
 obtain ⟨x2, y2⟩ := Al9 (P := Try.prog) (t := 32) (p := (false, [.sl 22 [.sl 5 [.int .u8]]])) (by kernel_rfl) (hval 2 32 v2 rfl rfl) h2
 have key : Calls Try.prog 5 #[v0, v1, v2] W (Ret W (.bool true)) := At7 (ps := Dv) (V := fun d => (C0 d.1 d.2.1 d.2.2.1).val) (rvs := Kn) Aci rfl (fun d h => Afj d h) (d := (x0, x1, x2, ())) (vs := [v0, v1, v2]) ⟨y0, y1, y2, trivial⟩
 refine key.mono fun e W' hR => ?_
 obtain ⟨he, hg⟩ := hR
 have hB := hg.below
 refine ⟨_, he, _, _, _, [], p0 ++ (p1 ++ (p2 ++ ([]))), [], hW', ?_, ?_, rfl, hB.frame _, fun h => by cases h⟩
 ·exact trodAll_mk1 (shut_bool Try.underlying4 _)
 ·refine Vs laidOut hB (fun t ht => ?_) hAk hlt
  have ht2 : t ∈ [44, 45, 32] := by rw [Try.params5] at ht; exact ht
  simp only [List.mem_cons, List.not_mem_nil, or_false] at ht2
  rcases ht2 with rfl | rfl | rfl
  all_goals exact ⟨by kernel_rfl, of_decide_eq_true (by kernel_rfl)⟩
theorem proved : Rows.FnExactCookSaid :=
 OpenClaim.holds_of_wide 5 Try.f5 rfl rfl rfl rfl rfl rfl rfl ⟨rfl, rfl, rfl, rfl, rfl⟩ rfl rfl rfl rfl rfl nm Try.func5 closed
  (of_decide_eq_true (by kernel_rfl)) (by unfold Func.isWrapper; first | (rw [if_pos (by decide +kernel)]; kernel_rfl) | (rw [if_neg (by decide +kernel)]; exact ⟨rfl, rfl⟩))
  (fun os started H enc _ => lifted os started H enc)
end FnExactCookL
end Go.Proofs.Ytggdikabbngbaaa

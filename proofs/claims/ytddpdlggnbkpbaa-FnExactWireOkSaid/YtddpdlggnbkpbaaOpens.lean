/-
  From the reading of the rows to the reading of these texts.
-/
import Derived.Test.YtddpdlggnbkpbaaRows
import Derived.Test.YtddpdlggnbkpbaaDat
namespace Go.Proofs.Ytddpdlggnbkpbaa
open Go.ChangeShapes Go.WideShapes Go.ChangeAt Go.RowKit
set_option maxHeartbeats 1000000
set_option linter.unusedVariables false
theorem own : ownKnob Try.prog.godebug = none := by kernel_rfl
theorem laidOut : laidOutB Try.prog = true := by kernel_rfl
theorem cellsOf3 : Try.prog.cellsOf 3 = 1 := by kernel_rfl
theorem cellsOf5 : Try.prog.cellsOf 5 = 1 := by kernel_rfl
theorem cellsOf22 : Try.prog.cellsOf 22 = 1 := by kernel_rfl
theorem cellsOf24 : Try.prog.cellsOf 24 = 4 := by kernel_rfl
theorem cellsOf32 : Try.prog.cellsOf 32 = 2 := by kernel_rfl
theorem cellsOf34 : Try.prog.cellsOf 34 = 5 := by kernel_rfl
theorem opensOp : Opens Try.prog 24 rdOp := by
  intro H enc w base sp held fuel cs x h
  obtain ⟨xs, n, _, _, hl, hx, hf⟩ := DataW.trod_struct Try.underlying24 h
  rw [cellsOf24] at hl
  have e0 : DataW.trod enc Try.prog w base sp held n 3 ((cs.drop 0).take 1) = xs[0]? := by
    have this : DataW.trod enc Try.prog w base sp held n 3 ((cs.drop 0).take (Try.prog.cellsOf 3)) = xs[0]? := hf 0 _ rfl
    rw [cellsOf3] at this; exact this
  obtain ⟨a0, q0, _⟩ := (opens_int Try.underlying3) _ _ _ _ _ _ _ _ _ (e0.trans (List.getElem?_eq_getElem (by rw [hx]; exact (by decide : 0 < 4))))
  have t0 : cs.drop 0 = (cs.drop 0).take 1 ++ cs.drop 1 := drop_step cs 0 1
  have e1 : DataW.trod enc Try.prog w base sp held n 3 ((cs.drop 1).take 1) = xs[1]? := by
    have this : DataW.trod enc Try.prog w base sp held n 3 ((cs.drop 1).take (Try.prog.cellsOf 3)) = xs[1]? := hf 1 _ rfl
    rw [cellsOf3] at this; exact this
  obtain ⟨a1, q1, _⟩ := (opens_int Try.underlying3) _ _ _ _ _ _ _ _ _ (e1.trans (List.getElem?_eq_getElem (by rw [hx]; exact (by decide : 1 < 4))))
  have t1 : cs.drop 1 = (cs.drop 1).take 1 ++ cs.drop 2 := drop_step cs 1 1
  have e2 : DataW.trod enc Try.prog w base sp held n 3 ((cs.drop 2).take 1) = xs[2]? := by
    have this : DataW.trod enc Try.prog w base sp held n 3 ((cs.drop 2).take (Try.prog.cellsOf 3)) = xs[2]? := hf 2 _ rfl
    rw [cellsOf3] at this; exact this
  obtain ⟨a2, q2, _⟩ := (opens_int Try.underlying3) _ _ _ _ _ _ _ _ _ (e2.trans (List.getElem?_eq_getElem (by rw [hx]; exact (by decide : 2 < 4))))
  have t2 : cs.drop 2 = (cs.drop 2).take 1 ++ cs.drop 3 := drop_step cs 2 1
  have e3 : DataW.trod enc Try.prog w base sp held n 22 ((cs.drop 3).take 1) = xs[3]? := by
    have this : DataW.trod enc Try.prog w base sp held n 22 ((cs.drop 3).take (Try.prog.cellsOf 22)) = xs[3]? := hf 3 _ rfl
    rw [cellsOf22] at this; exact this
  obtain ⟨a3, zp3, zc3, q3, k3⟩ := (opens_bytes Try.underlying22 Try.underlying5 cellsOf5) _ _ _ _ _ _ _ _ _ (e3.trans (List.getElem?_eq_getElem (by rw [hx]; exact (by decide : 3 < 4))))
  have t3 : cs.drop 3 = (cs.drop 3).take 1 ++ cs.drop 4 := drop_step cs 3 1
  have tn : cs.drop 4 = [] := List.drop_eq_nil_of_le (by omega)
  refine ⟨⟨a0, a1, a2, a3⟩, zp3, zc3, ?_, k3⟩
  show cs.drop 0 = _
  rw [t0, q0, t1, q1, t2, q2, t3, q3, tn]
  rfl
theorem opensAddr : Opens Try.prog 32 rdAddr := by
  intro H enc w base sp held fuel cs x h
  obtain ⟨xs, n, _, _, hl, hx, hf⟩ := DataW.trod_struct Try.underlying32 h
  rw [cellsOf32] at hl
  have e0 : DataW.trod enc Try.prog w base sp held n 3 ((cs.drop 0).take 1) = xs[0]? := by
    have this : DataW.trod enc Try.prog w base sp held n 3 ((cs.drop 0).take (Try.prog.cellsOf 3)) = xs[0]? := hf 0 _ rfl
    rw [cellsOf3] at this; exact this
  obtain ⟨a0, q0, _⟩ := (opens_int Try.underlying3) _ _ _ _ _ _ _ _ _ (e0.trans (List.getElem?_eq_getElem (by rw [hx]; exact (by decide : 0 < 2))))
  have t0 : cs.drop 0 = (cs.drop 0).take 1 ++ cs.drop 1 := drop_step cs 0 1
  have e1 : DataW.trod enc Try.prog w base sp held n 3 ((cs.drop 1).take 1) = xs[1]? := by
    have this : DataW.trod enc Try.prog w base sp held n 3 ((cs.drop 1).take (Try.prog.cellsOf 3)) = xs[1]? := hf 1 _ rfl
    rw [cellsOf3] at this; exact this
  obtain ⟨a1, q1, _⟩ := (opens_int Try.underlying3) _ _ _ _ _ _ _ _ _ (e1.trans (List.getElem?_eq_getElem (by rw [hx]; exact (by decide : 1 < 2))))
  have t1 : cs.drop 1 = (cs.drop 1).take 1 ++ cs.drop 2 := drop_step cs 1 1
  have tn : cs.drop 2 = [] := List.drop_eq_nil_of_le (by omega)
  refine ⟨⟨a0, a1⟩, ?_⟩
  show cs.drop 0 = _
  rw [t0, q0, t1, q1, tn]
  rfl
theorem opensWire : Opens Try.prog 34 rdWire := by
  intro H enc w base sp held fuel cs x h
  obtain ⟨xs, n, _, _, hl, hx, hf⟩ := DataW.trod_struct Try.underlying34 h
  rw [cellsOf34] at hl
  have e0 : DataW.trod enc Try.prog w base sp held n 32 ((cs.drop 0).take 2) = xs[0]? := by
    have this : DataW.trod enc Try.prog w base sp held n 32 ((cs.drop 0).take (Try.prog.cellsOf 32)) = xs[0]? := hf 0 _ rfl
    rw [cellsOf32] at this; exact this
  obtain ⟨a0, q0⟩ := opensAddr _ _ _ _ _ _ _ _ _ (e0.trans (List.getElem?_eq_getElem (by rw [hx]; exact (by decide : 0 < 3))))
  unfold rdAddr at q0
  have t0 : cs.drop 0 = (cs.drop 0).take 2 ++ cs.drop 2 := drop_step cs 0 2
  have e1 : DataW.trod enc Try.prog w base sp held n 32 ((cs.drop 2).take 2) = xs[1]? := by
    have this : DataW.trod enc Try.prog w base sp held n 32 ((cs.drop 2).take (Try.prog.cellsOf 32)) = xs[1]? := hf 1 _ rfl
    rw [cellsOf32] at this; exact this
  obtain ⟨a1, q1⟩ := opensAddr _ _ _ _ _ _ _ _ _ (e1.trans (List.getElem?_eq_getElem (by rw [hx]; exact (by decide : 1 < 3))))
  unfold rdAddr at q1
  have t1 : cs.drop 2 = (cs.drop 2).take 2 ++ cs.drop 4 := drop_step cs 2 2
  have e2 : DataW.trod enc Try.prog w base sp held n 22 ((cs.drop 4).take 1) = xs[2]? := by
    have this : DataW.trod enc Try.prog w base sp held n 22 ((cs.drop 4).take (Try.prog.cellsOf 22)) = xs[2]? := hf 2 _ rfl
    rw [cellsOf22] at this; exact this
  obtain ⟨a2, zp2, zc2, q2, k2⟩ := (opens_bytes Try.underlying22 Try.underlying5 cellsOf5) _ _ _ _ _ _ _ _ _ (e2.trans (List.getElem?_eq_getElem (by rw [hx]; exact (by decide : 2 < 3))))
  have t2 : cs.drop 4 = (cs.drop 4).take 1 ++ cs.drop 5 := drop_step cs 4 1
  have tn : cs.drop 5 = [] := List.drop_eq_nil_of_le (by omega)
  refine ⟨⟨a0, a1, a2⟩, zp2, zc2, ?_, k2⟩
  show cs.drop 0 = _
  rw [t0, q0, t1, q1, t2, q2, tn]
  rfl

end Go.Proofs.Ytddpdlggnbkpbaa

/-
  What the helpers sz, to, eq on structs do, for every value that reads as data.
-/
import Derived.Test.YtddpdlggnbkpbaaBytes
namespace Go.Proofs.Ytddpdlggnbkpbaa
open Go.RowKit
set_option maxHeartbeats 1000000
set_option linter.unusedVariables false
theorem szOp_any (cs : List Value) (a : DOp) (left : Int) (f : Frag) (w : World) (hr : rdOp f cs a) (hf : Lies f w) (h0 : 0 ≤ left) (h1 : left ≤ 1048576) :
    Calls Try.prog 9 #[.agg cs.toArray, .int .i64 left] w (RetSz w (bulkOp a) left) := by
  obtain ⟨p1, c1, rfl, g1⟩ := hr
  go_enter Try.func9, Try.ntmps9
  go_wp2_with fail
  refine (szByteS_any _ _ _ _ _ g1 (hf.alloc _) (by omega) (by omega)).mono ?_
  rintro e w' ⟨r1, rfl, hle1, H1, x1, rfl⟩
  have G1 : Hid (r1 = szb (a.B.length) left) := H1
  by_cases hn1 : r1 < 0
  · go_wp2_with fail
    go_ret
    exact RetSz.mk (by unfold bulkOp; have := szb_stop (m := 0) (n := a.B.length) (by rw [← G1.out]; exact hn1); simpa using this) (by omega) (((Grew.refl _).alloc _).ext _)
  go_wp2_with fail
  go_ret
  exact RetSz.mk (by unfold bulkOp; exact G1.out.symm) (by omega) (((Grew.refl _).alloc _).ext _)
theorem toOp_any (cs : List Value) (a : DOp) (f : Frag) (w : World) (hr : rdOp f cs a) (hf : Lies f w) (hl : bulkOp a ≤ 1048576) :
    Calls Try.prog 11 #[.agg cs.toArray] w (Gives w fun v g => ∃ cs', v = .agg cs'.toArray ∧ ownOp g cs' a) := by
  obtain ⟨p1, c1, rfl, h1⟩ := hr
  unfold bulkOp at hl
  go_enter Try.func11, Try.ntmps11
  go_wp2_with fail
  refine (toByteS_any _ _ _ _ h1 (((hf.alloc _).alloc _).alloc _) (by omega)).mono ?_
  rintro e w' hg
  obtain ⟨_, q1, x1, rfl, rfl, hin1, hO1⟩ := hg.outAt (n := w.heap.size + 1 + 1 + 1) (by simp)
  have hJ := hin1
  clear hg hin1
  obtain ⟨v1p1, v1c1, rfl⟩ := ByteSform hO1
  have l3_0 : w.heap.size < w.heap.size + 1 + 1 + 1 := by omega
  have l3_1 : w.heap.size + 1 < w.heap.size + 1 + 1 + 1 := by omega
  go_wp2_with fail
  refine bodyPost_ret (v := .agg #[.int .i64 a.Kind, .int .i64 a.I, .int .i64 a.J, .slice v1p1 a.B.length v1c1]) (by simp [results, Try.results11, go_sem, *]) rfl ?_
  exact Gives.mk q1 (((((Grew.refl _).alloc _).alloc _).alloc _).ext _) (hJ.lies (by simp)) (Frag.from_mono hJ.from_ (by omega)) ⟨[.int .i64 a.Kind, .int .i64 a.I, .int .i64 a.J, .slice v1p1 a.B.length v1c1], rfl, v1p1, v1c1, _, rfl, Parts.rev (Parts.one _), hO1⟩
theorem eqOp_any (cs ds : List Value) (a b : DOp) (f g : Frag) (w : World) (hr : rdOp f cs a) (hs : rdOp g ds b) (hf : Lies f w) (hg : Lies g w) :
    Calls Try.prog 13 #[.agg cs.toArray, .agg ds.toArray] w (Ret w (.bool (eqc a b))) := by
  obtain ⟨p1, c1, rfl, h1⟩ := hr
  obtain ⟨bp1, bc1, rfl, k1⟩ := hs
  go_enter Try.func13, Try.ntmps13
  by_cases e0 : a.Kind = b.Kind
  case neg =>
    have B0 : (a.Kind != b.Kind) = true := by simpa using e0
    have N0 := Lib.hid e0; clear e0
    go_wp2_with fail
    go_ret
    exact Ret.mk (by rw [eqc_false (fun e : a = b => N0.out (by rw [e]))]; rfl) (((Grew.refl _).alloc _).alloc _)
  have B0 : (a.Kind != b.Kind) = false := by simp [e0]
  have E0 := Lib.hid e0; clear e0
  by_cases e1 : a.I = b.I
  case neg =>
    have B1 : (a.I != b.I) = true := by simpa using e1
    have N1 := Lib.hid e1; clear e1
    go_wp2_with fail
    go_ret
    exact Ret.mk (by rw [eqc_false (fun e : a = b => N1.out (by rw [e]))]; rfl) (((Grew.refl _).alloc _).alloc _)
  have B1 : (a.I != b.I) = false := by simp [e1]
  have E1 := Lib.hid e1; clear e1
  by_cases e2 : a.J = b.J
  case neg =>
    have B2 : (a.J != b.J) = true := by simpa using e2
    have N2 := Lib.hid e2; clear e2
    go_wp2_with fail
    go_ret
    exact Ret.mk (by rw [eqc_false (fun e : a = b => N2.out (by rw [e]))]; rfl) (((Grew.refl _).alloc _).alloc _)
  have B2 : (a.J != b.J) = false := by simp [e2]
  have E2 := Lib.hid e2; clear e2
  go_wp2_with fail
  refine (eqByteS_any _ _ _ _ _ _ _ h1 k1 ((hf.alloc _).alloc _) ((hg.alloc _).alloc _)).mono ?_
  rintro e w' ⟨rfl, x1, rfl⟩
  have l2_0 : w.heap.size < w.heap.size + 1 + 1 := by omega
  by_cases e3 : a.B = b.B
  case neg =>
    rw [eqc_false e3]
    have N3 := Lib.hid e3; clear e3
    go_wp2_with fail
    go_ret
    exact Ret.mk (by rw [eqc_false (fun e : a = b => N3.out (by rw [e]))]; rfl) ((((Grew.refl _).alloc _).alloc _).ext _)
  rw [eqc_true e3]
  have E3 := Lib.hid e3; clear e3
  go_wp2_with fail
  go_ret
  exact Ret.mk (by rw [eqc_true (extOp E0.out E1.out E2.out E3.out)]; rfl) ((((Grew.refl _).alloc _).alloc _).ext _)
theorem toAddr_any (cs : List Value) (a : DAddr) (f : Frag) (w : World) (hr : rdAddr f cs a) (hf : Lies f w) (hl : bulkAddr a ≤ 1048576) :
    Calls Try.prog 25 #[.agg cs.toArray] w (Gives w fun v g => ∃ cs', v = .agg cs'.toArray ∧ ownAddr g cs' a) := by
  obtain rfl := hr
  go_enter Try.func25, Try.ntmps25
  go_wp2_with fail
  refine bodyPost_ret (v := .agg #[.int .i64 a.Host, .int .i64 a.Port]) (by simp [results, Try.results25, go_sem, *]) rfl ?_
  exact Gives.mk Frag.emp ((((Grew.refl _).alloc _).alloc _).alloc _) (Lies.emp _) (Frag.from_emp _) ⟨[.int .i64 a.Host, .int .i64 a.Port], rfl, rfl⟩
theorem eqAddr_any (cs ds : List Value) (a b : DAddr) (f g : Frag) (w : World) (hr : rdAddr f cs a) (hs : rdAddr g ds b) (hf : Lies f w) (hg : Lies g w) :
    Calls Try.prog 46 #[.agg cs.toArray, .agg ds.toArray] w (Ret w (.bool (eqc a b))) := by
  obtain rfl := hr
  obtain rfl := hs
  go_enter Try.func46, Try.ntmps46
  by_cases e0 : a.Host = b.Host
  case neg =>
    have B0 : (a.Host != b.Host) = true := by simpa using e0
    have N0 := Lib.hid e0; clear e0
    go_wp2_with fail
    go_ret
    exact Ret.mk (by rw [eqc_false (fun e : a = b => N0.out (by rw [e]))]; rfl) (((Grew.refl _).alloc _).alloc _)
  have B0 : (a.Host != b.Host) = false := by simp [e0]
  have E0 := Lib.hid e0; clear e0
  by_cases e1 : a.Port = b.Port
  case neg =>
    have B1 : (a.Port != b.Port) = true := by simpa using e1
    have N1 := Lib.hid e1; clear e1
    go_wp2_with fail
    go_ret
    exact Ret.mk (by rw [eqc_false (fun e : a = b => N1.out (by rw [e]))]; rfl) (((Grew.refl _).alloc _).alloc _)
  have B1 : (a.Port != b.Port) = false := by simp [e1]
  have E1 := Lib.hid e1; clear e1
  go_wp2_with fail
  go_ret
  exact Ret.mk (by rw [eqc_true (extAddr E0.out E1.out)]; rfl) (((Grew.refl _).alloc _).alloc _)
theorem szWire_any (cs : List Value) (a : DWire) (left : Int) (f : Frag) (w : World) (hr : rdWire f cs a) (hf : Lies f w) (h0 : 0 ≤ left) (h1 : left ≤ 1048576) :
    Calls Try.prog 14 #[.agg cs.toArray, .int .i64 left] w (RetSz w (bulkWire a) left) := by
  obtain ⟨p1, c1, rfl, g1⟩ := hr
  go_enter Try.func14, Try.ntmps14
  go_wp2_with fail
  refine (szByteS_any _ _ _ _ _ g1 (hf.alloc _) (by omega) (by omega)).mono ?_
  rintro e w' ⟨r1, rfl, hle1, H1, x1, rfl⟩
  have G1 : Hid (r1 = szb (a.B.length) left) := H1
  by_cases hn1 : r1 < 0
  · go_wp2_with fail
    go_ret
    exact RetSz.mk (by unfold bulkWire; have := szb_stop (m := 0) (n := a.B.length) (by rw [← G1.out]; exact hn1); simpa using this) (by omega) (((Grew.refl _).alloc _).ext _)
  go_wp2_with fail
  go_ret
  exact RetSz.mk (by unfold bulkWire; exact G1.out.symm) (by omega) (((Grew.refl _).alloc _).ext _)
theorem toWire_any (cs : List Value) (a : DWire) (f : Frag) (w : World) (hr : rdWire f cs a) (hf : Lies f w) (hl : bulkWire a ≤ 1048576) :
    Calls Try.prog 16 #[.agg cs.toArray] w (Gives w fun v g => ∃ cs', v = .agg cs'.toArray ∧ ownWire g cs' a) := by
  obtain ⟨p1, c1, rfl, h1⟩ := hr
  unfold bulkWire at hl
  go_enter Try.func16, Try.ntmps16
  go_wp2_with fail
  refine (toAddr_any _ _ Frag.emp _ rfl (Lies.emp _) (by unfold bulkAddr; omega)).mono ?_
  rintro e w' hg
  obtain ⟨_, q1, x1, rfl, rfl, hin1, cs1, rfl, rfl⟩ := hg.outAt (n := w.heap.size + 1 + 1 + 1) (by simp)
  clear hg hin1
  have l3_0 : w.heap.size < w.heap.size + 1 + 1 + 1 := by omega
  have l3_1 : w.heap.size + 1 < w.heap.size + 1 + 1 + 1 := by omega
  go_wp2_with fail
  refine (toAddr_any _ _ Frag.emp _ rfl (Lies.emp _) (by unfold bulkAddr; omega)).mono ?_
  rintro e w' hg
  obtain ⟨_, q2, x2, rfl, rfl, hs, hin2, ha, cs2, rfl, rfl⟩ := hg.mergeAt (n := w.heap.size + 1 + 1 + 1) (by simp)
  clear hg hs ha hin2
  go_wp2_with fail
  refine (toByteS_any _ _ _ _ h1 ((((hf.alloc _).alloc _).alloc _).ext _) (by omega)).mono ?_
  rintro e w' hg
  obtain ⟨_, q3, x3, rfl, rfl, hs, hin3, ha, hO3⟩ := hg.mergeAt (n := w.heap.size + 1 + 1 + 1) (by simp)
  have hJ := hin3
  clear hg hs ha hin3
  obtain ⟨v3p1, v3c1, rfl⟩ := ByteSform hO3
  go_wp2_with fail
  refine bodyPost_ret (v := .agg #[.int .i64 a.From.Host, .int .i64 a.From.Port, .int .i64 a.To.Host, .int .i64 a.To.Port, .slice v3p1 a.B.length v3c1]) (by simp [results, Try.results16, go_sem, *]) rfl ?_
  exact Gives.mk q3 (((((Grew.refl _).alloc _).alloc _).alloc _).ext _) (hJ.lies (by simp)) (Frag.from_mono hJ.from_ (by omega)) ⟨[.int .i64 a.From.Host, .int .i64 a.From.Port, .int .i64 a.To.Host, .int .i64 a.To.Port, .slice v3p1 a.B.length v3c1], rfl, v3p1, v3c1, _, rfl, Parts.rev (Parts.one _), hO3⟩
theorem eqWire_any (cs ds : List Value) (a b : DWire) (f g : Frag) (w : World) (hr : rdWire f cs a) (hs : rdWire g ds b) (hf : Lies f w) (hg : Lies g w) :
    Calls Try.prog 18 #[.agg cs.toArray, .agg ds.toArray] w (Ret w (.bool (eqc a b))) := by
  obtain ⟨p1, c1, rfl, h1⟩ := hr
  obtain ⟨bp1, bc1, rfl, k1⟩ := hs
  go_enter Try.func18, Try.ntmps18
  go_wp2_with fail
  refine (eqAddr_any _ _ a.From b.From Frag.emp Frag.emp _ rfl rfl (Lies.emp _) (Lies.emp _)).mono ?_
  rintro e w' ⟨rfl, x1, rfl⟩
  have l2_0 : w.heap.size < w.heap.size + 1 + 1 := by omega
  by_cases e0 : a.From = b.From
  case neg =>
    rw [eqc_false e0]
    have N0 := Lib.hid e0; clear e0
    go_wp2_with fail
    go_ret
    exact Ret.mk (by rw [eqc_false (fun e : a = b => N0.out (by rw [e]))]; rfl) ((((Grew.refl _).alloc _).alloc _).ext _)
  rw [eqc_true e0]
  have E0 := Lib.hid e0; clear e0
  go_wp2_with fail
  refine (eqAddr_any _ _ a.To b.To Frag.emp Frag.emp _ rfl rfl (Lies.emp _) (Lies.emp _)).mono ?_
  rintro e w' hm
  obtain ⟨rfl, x2, rfl, _⟩ := Ret.merge hm
  clear hm
  by_cases e1 : a.To = b.To
  case neg =>
    rw [eqc_false e1]
    have N1 := Lib.hid e1; clear e1
    go_wp2_with fail
    go_ret
    exact Ret.mk (by rw [eqc_false (fun e : a = b => N1.out (by rw [e]))]; rfl) ((((Grew.refl _).alloc _).alloc _).ext _)
  rw [eqc_true e1]
  have E1 := Lib.hid e1; clear e1
  go_wp2_with fail
  refine (eqByteS_any _ _ _ _ _ _ _ h1 k1 (((hf.alloc _).alloc _).ext _) (((hg.alloc _).alloc _).ext _)).mono ?_
  rintro e w' hm
  obtain ⟨rfl, x3, rfl, _⟩ := Ret.merge hm
  clear hm
  by_cases e2 : a.B = b.B
  case neg =>
    rw [eqc_false e2]
    have N2 := Lib.hid e2; clear e2
    go_wp2_with fail
    go_ret
    exact Ret.mk (by rw [eqc_false (fun e : a = b => N2.out (by rw [e]))]; rfl) ((((Grew.refl _).alloc _).alloc _).ext _)
  rw [eqc_true e2]
  have E2 := Lib.hid e2; clear e2
  go_wp2_with fail
  go_ret
  exact Ret.mk (by rw [eqc_true (extWire E0.out E1.out E2.out)]; rfl) ((((Grew.refl _).alloc _).alloc _).ext _)

end Go.Proofs.Ytddpdlggnbkpbaa

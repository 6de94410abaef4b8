/-
  That the program and the reference answer alike, in plain terms, and that the laws answer true.
-/
import Derived.Test.YtggdikabbngbaaaGreatL38
namespace Go.Proofs.YtggdikabbngbaaaGreat
open Go.RowKit
set_option linter.unusedVariables false
set_option linter.unusedSimpArgs false
set_option maxRecDepth 100000
set_option maxHeartbeats 8000000
noncomputable section
theorem Bbo (s : Bi) (n : YI) (a : B5) (f : Av) (d : YBs) (hw : Us s) (hw2 : Ut f) {e1 e2 e3 e4 e5 e6 e7 e8 e9 e10 e11 e12 e13 e14 e15 e16 e17 : Nat}
  (w : Fr (Sh.int .i64 :: Sh.sl e1 [.int .u8] :: Sh.sl e2 [.int .u8] :: Sh.int .i64 :: Sh.sl e3 [.int .u8] :: Sh.int .i64 :: Sh.sl e4 [.int .u8] :: Sh.int .i64 :: Sh.int .i64 :: Sh.sl e5 [.int .i64] :: Sh.int .i64 :: Sh.sl e6 [.int .u8] :: Sh.int .i64 :: Sh.int .i64 :: Sh.sl e7 [.int .i64] :: Sh.bool :: Sh.int .i64 :: Sh.sl e8 [.int .u8] :: Sh.int .i64 :: Sh.int .i64 :: Sh.sl e9 [.int .i64, .int .i64, .sl e10 [.int .u8], .int .i64] :: Sh.int .i64 :: Sh.int .i64 :: Sh.bool :: [] : List Sh) s) (w2 : Fr [.int .i64] n) (w3 : Fr [.int .i64, .int .i64] a) (w4 : Fr (Sh.int .i64 :: Sh.int .i64 :: Sh.sl e11 [.int .u8] :: Sh.sl e12 [.int .u8] :: Sh.int .i64 :: Sh.sl e13 [.int .u8] :: Sh.sl e14 [.int .u8] :: Sh.int .i64 :: Sh.int .i64 :: Sh.sl e15 [.int .u8] :: Sh.sl e16 [.int .u8] :: [] : List Sh) f) (w5 : Fr [.sl e17 [.int .u8]] d) : T5 s n a f d = some (true, ()) := by
 have k1 : wfB (Ku s).2.1 := Bkc w.2.2.2.2.1
 have k2 : wfB f.2.2.2.1 := Bkc w4.2.2.2.1
 clear w w2 w3 w4 w5
 unfold T5 D3
 simp only [Ag, Ae, Ab]
 by_cases h0 : (d.1.length : Int) > 1048576
 ·rw [Ao h0, A3]
 rw [Bm h0, An, Bfm s _ (by omega) (by omega) hw, Ah]
 by_cases h : szR (Bh s) 1048576 < 0
 ·rw [J3 (by simpa using h)]
 ·have hb := Bfz h
  have hle : szR (Bh s) 1048576 ≤ 1048576 := Te (by omega) (by omega)
  rw [Dw (by simpa using h), Bly f _ (by omega) (by omega) hw2, Ah]
  by_cases h' : szR (A1 f) (szR (Bh s) 1048576) < 0
  ·rw [J3 (by simpa using h')]
  have hb' := Bfz h'
  obtain ⟨r, os, ns, k, h1, h2, h3, h4, h5⟩ := Be0 s n a f d (by omega) (by omega) (by omega) k2 k1
  obtain ⟨d, ⟨⟩⟩ := d
  have h6 := A1j s
  have h7 := A1j r
  have h10 := Bem f
  have h8 := Asr (f := Em) (g := Cv) Bjo ns
  have h9 := Asr (f := F0) (g := Db) Blw os
  have h11 := Ck (f := w_B) (fun _ => by simp [w_B]) d
  rw [Dw (by simpa using h')]
  simp only at h0 h1 h2 h4 h5
  simp (disch := first | omega | (dsimp only; omega)) only [Bfn, Blz, Ahn, N3, Ah, h1, h2, Asx, Axd, Ib, Uz, Bfo, Bl0, Ac8, All, Fc, A56, Bhm, Arf, A57, Bhn, Bool.not_true, An, N0, B6]
  cases k <;> rfl
end
end Go.Proofs.YtggdikabbngbaaaGreat
